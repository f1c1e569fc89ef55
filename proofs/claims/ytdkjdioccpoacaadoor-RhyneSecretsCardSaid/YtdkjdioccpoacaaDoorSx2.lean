/- Packed: Limb, Fval, Fmul, Ftim, Sha0, Aes0, Aes1, AesP, Aes7, AesK, Sha1, Sha2, Hkdf, Bits, as far as rhyneSecretsCard_holds needs them. No conditions but those that stand in the statements. -/
import Derived.Test.YtdkjdioccpoacaaDoorSx1
set_option linter.unusedSimpArgs false
set_option linter.unusedVariables false
namespace Go.Proofs.YtdkjdioccpoacaaDoor
open Go
def num (w : Nat) (d : Nat → Nat) : Nat → Nat
  | 0 => 0
  | n + 1 => num w d n + d n * 2 ^ (w * n)
theorem num_congr {w : Nat} {d e : Nat → Nat} : ∀ n, (∀ i, i < n → d i = e i) → num w d n = num w e n
  | 0, _ => rfl
  | n + 1, h => by rw [num, num, num_congr n fun i hi => h i (by omega), h n (by omega)]
theorem num_lt {w : Nat} {d : Nat → Nat} : ∀ n, (∀ i, i < n → d i < 2 ^ w) → num w d n < 2 ^ (w * n)
  | 0, _ => by simp [num]
  | n + 1, h => by
    have ih := num_lt n fun i hi => h i (by omega)
    have hd := h n (by omega)
    rw [num, Nat.mul_succ, Nat.pow_add]
    have : (d n + 1) * 2 ^ (w * n) ≤ 2 ^ w * 2 ^ (w * n) := Nat.mul_le_mul_right _ hd
    rw [Nat.add_mul, Nat.one_mul] at this
    rw [Nat.mul_comm (2 ^ (w * n))]; omega
theorem num_bit {w : Nat} (hw : 0 < w) {d : Nat → Nat} : ∀ n, (∀ i, i < n → d i < 2 ^ w) → ∀ t, (num w d n).testBit t = (decide (t < w * n) && (d (t / w)).testBit (t % w))
  | 0, _, t => by simp [num]
  | n + 1, h, t => by
    have ih := num_bit hw n (fun i hi => h i (by omega)) t
    have hl := num_lt n fun i hi => h i (by omega)
    have hd := h n (by omega)
    rw [num, Nat.add_comm, Nat.mul_comm, Nat.two_pow_add_eq_or_of_lt hl, Nat.testBit_or, ih, Nat.testBit_two_pow_mul]
    by_cases h1 : t < w * n
    · have e1 : decide (t < w * (n + 1)) = true := decide_eq_true (by rw [Nat.mul_succ]; omega)
      have e2 : decide (t ≥ w * n) = false := decide_eq_false (by omega)
      rw [decide_eq_true h1, e1, e2]; simp
    · have e2 : decide (t ≥ w * n) = true := decide_eq_true (by omega)
      rw [decide_eq_false h1, e2, Bool.true_and, Bool.false_and, Bool.or_false]
      by_cases h2 : t < w * (n + 1)
      · have hq : t / w = n := by
          apply Nat.div_eq_of_lt_le
          · rw [Nat.mul_comm]; omega
          · rw [Nat.mul_comm]; exact h2
        have hr : t % w = t - w * n := by rw [Nat.mod_eq_sub_mul_div, hq]
        rw [decide_eq_true h2, hq, hr, Bool.true_and]
      · rw [decide_eq_false h2, Bool.false_and]
        refine Nat.testBit_lt_two_pow (Nat.lt_of_lt_of_le hd (Nat.pow_le_pow_right (by decide) ?_))
        rw [Nat.mul_succ] at h2; omega
theorem split_mul (x W M : Nat) : x % M * W + x / M * (W * M) = x * W := by
  have := Nat.div_add_mod x M
  calc x % M * W + x / M * (W * M) = (M * (x / M) + x % M) * W := by rw [Nat.add_mul, Nat.mul_comm W M, ← Nat.mul_assoc, Nat.mul_comm (x / M) M, Nat.add_comm]
    _ = x * W := by rw [this]
def V5 (f : Nat → UInt64) : Nat := num 51 (fun i => (f i).toNat) 5
theorem V5_is (f : Nat → UInt64) : V5 f = (f 0).toNat + (f 1).toNat * 2251799813685248 + (f 2).toNat * 5070602400912917605986812821504 + (f 3).toNat * 11417981541647679048466287755595961091061972992 + (f 4).toNat * 25711008708143844408671393477458601640355247900524685364822016 := by
  simp [V5, num]
def FV (f : Nat → UInt64) : F := ⟨V5 f % q255, Nat.mod_lt _ (by decide)⟩
theorem FV_eq {f g : Nat → UInt64} (h : V5 f % q255 = V5 g % q255) : FV f = FV g := Fin.ext h
theorem q255_is : (57896044618658097711785492504343953926634992332820282019728792003956564819968 : Nat) = 19 + q255 := by kernel_rfl
theorem p_wrap (a b : Nat) : (a + 19 * b) % q255 = (a + b * 57896044618658097711785492504343953926634992332820282019728792003956564819968) % q255 := by
  have e : a + b * 57896044618658097711785492504343953926634992332820282019728792003956564819968 = a + 19 * b + q255 * b := by
    rw [q255_is, Nat.mul_comm b, Nat.add_mul, Nat.add_assoc]
  rw [e, Nat.add_mul_mod_self_left]
def Sm (f : Nat → UInt64) : Prop := ∀ i, i < 5 → (f i).toNat < 4503599627370496
def Di (f : Nat → UInt64) : Prop := ∀ i, i < 5 → (f i).toNat < 2251799813685248
theorem Di.sm {f : Nat → UInt64} (h : Di f) : Sm f := fun i hi => Nat.lt_trans (h i hi) (by decide)
theorem Di.lt {f : Nat → UInt64} (h : Di f) : V5 f < 57896044618658097711785492504343953926634992332820282019728792003956564819968 := num_lt 5 h
structure CarI (f h : Nat → UInt64) (o : UInt64) (i : Nat) : Prop where
  lo : ∀ j, j < i → (h j).toNat < 2251799813685248
  hi : ∀ j, i ≤ j → h j = f j
  ov : o.toNat < 8192
  eq : num 51 (fun j => (h j).toNat) i + o.toNat * 2 ^ (51 * i) = num 51 (fun j => (f j).toNat) i
theorem CarI.start (f : Nat → UInt64) : CarI f f 0 0 := ⟨fun j h => absurd h (Nat.not_lt_zero _), fun _ _ => rfl, by decide, by simp [num]⟩
def car1 (h : Nat → UInt64) (o : UInt64) (i : Nat) : Nat → UInt64 := upd (upd h i (h i + o)) i ((h i + o) &&& 2251799813685247)
theorem u64_and51 (x : UInt64) : (x &&& 2251799813685247).toNat = x.toNat % 2251799813685248 := by
  rw [UInt64.toNat_and]; exact Nat.and_two_pow_sub_one_eq_mod x.toNat 51
theorem u64_shr51 (x : UInt64) : (x >>> 51).toNat = x.toNat / 2251799813685248 := by
  rw [UInt64.toNat_shiftRight]; exact Nat.shiftRight_eq_div_pow _ _
theorem CarI.step {f h : Nat → UInt64} {o : UInt64} {i : Nat} (hf : ∀ j, j < 5 → (f j).toNat < 9223372036854775808) (hi : i < 5) (H : CarI f h o i) : CarI f (car1 h o i) ((h i + o) >>> 51) (i + 1) := by
  obtain ⟨h1, h2, h3, h4⟩ := H
  have hfi := hf i hi
  have hs : (h i + o).toNat = (f i).toNat + o.toNat := by
    rw [h2 i (Nat.le_refl _), UInt64.toNat_add, Nat.mod_eq_of_lt (by omega)]
  refine ⟨fun j hj => ?_, fun j hj => ?_, ?_, ?_⟩
  · unfold car1
    by_cases e : j = i
    · subst e; rw [upd_same, u64_and51]; exact Nat.mod_lt _ (by decide)
    · rw [upd_other _ _ _ e, upd_other _ _ _ e]; exact h1 j (by omega)
  · unfold car1
    rw [upd_other _ _ _ (by omega), upd_other _ _ _ (by omega)]; exact h2 j (by omega)
  · rw [u64_shr51, hs]; omega
  · rw [num, num]
    have e1 : num 51 (fun j => (car1 h o i j).toNat) i = num 51 (fun j => (h j).toNat) i := num_congr i fun j hj => by
      unfold car1; rw [upd_other _ _ _ (by omega), upd_other _ _ _ (by omega)]
    have e2 : (car1 h o i i).toNat = ((f i).toNat + o.toNat) % 2251799813685248 := by unfold car1; rw [upd_same, u64_and51, hs]
    rw [e1, e2, u64_shr51, hs, Nat.mul_succ, Nat.pow_add]
    have e3 := split_mul ((f i).toNat + o.toNat) (2 ^ (51 * i)) 2251799813685248
    have e4 : ((f i).toNat + o.toNat) * 2 ^ (51 * i) = (f i).toNat * 2 ^ (51 * i) + o.toNat * 2 ^ (51 * i) := Nat.add_mul _ _ _
    have e5 : (2 : Nat) ^ 51 = 2251799813685248 := rfl
    rw [e5]; omega
def car0 (h : Nat → UInt64) (o : UInt64) : Nat → UInt64 := upd h 0 (h 0 + 19 * o)
structure CarP (f g : Nat → UInt64) : Prop where
  sm : (g 0).toNat < 2251799813840896
  di : ∀ j, 1 ≤ j → j < 5 → (g j).toNat < 2251799813685248
  val : FV g = FV f
  cl : V5 f < 57896044618658097711785492504343953926634992332820282019728792003957690719810 → Di g
theorem CarI.done {f h : Nat → UInt64} {o : UInt64} (H : CarI f h o 5) : CarP f (car0 h o) := by
  obtain ⟨h1, h2, h3, h4⟩ := H
  have a0 := h1 0 (by decide); have a1 := h1 1 (by decide); have a2 := h1 2 (by decide); have a3 := h1 3 (by decide); have a4 := h1 4 (by decide)
  have hs : (h 0 + 19 * o).toNat = (h 0).toNat + 19 * o.toNat := by
    rw [UInt64.toNat_add, UInt64.toNat_mul]
    show ((h 0).toNat + 19 * o.toNat % 2 ^ 64) % 2 ^ 64 = _
    rw [Nat.mod_eq_of_lt (show 19 * o.toNat < 2 ^ 64 by omega), Nat.mod_eq_of_lt (by omega)]
  have g0 : (car0 h o 0).toNat = (h 0).toNat + 19 * o.toNat := by unfold car0; rw [upd_same, hs]
  have gj : ∀ j, 1 ≤ j → car0 h o j = h j := fun j hj => by unfold car0; rw [upd_other _ _ _ (by omega)]
  have hV : V5 (car0 h o) = V5 h + 19 * o.toNat := by
    rw [V5_is, V5_is, g0, gj 1 (by decide), gj 2 (by decide), gj 3 (by decide), gj 4 (by decide)]; omega
  have h4' : V5 h + o.toNat * 57896044618658097711785492504343953926634992332820282019728792003956564819968 = V5 f := h4
  refine ⟨by rw [g0]; omega, fun j hj hj5 => by rw [gj j hj]; exact h1 j hj5, FV_eq ?_, fun hv j hj => ?_⟩
  · rw [hV, ← h4', p_wrap]
  · by_cases hj0 : j = 0
    · subst hj0
      rw [g0]
      have e := V5_is h
      have : o.toNat = 0 ∨ o.toNat = 1 := by omega
      rcases this with h0 | h0
      · rw [h0]; omega
      · rw [h0] at h4' ⊢; omega
    · rw [gj j (by omega)]; exact h1 j hj
theorem CarP.s {f g : Nat → UInt64} (h : CarP f g) : Sm g := fun i hi => by
  by_cases h0 : i = 0
  · subst h0; have := h.sm; omega
  · exact Nat.lt_trans (h.di i (by omega) hi) (by decide)
end Go.Proofs.YtdkjdioccpoacaaDoor
set_option linter.unusedSimpArgs false
set_option linter.unusedVariables false
set_option maxRecDepth 100000
namespace Go.Proofs.YtdkjdioccpoacaaDoor
open Go
theorem carL_is {f : Five} (hf : ∀ j, j < 5 → (f j).toNat < 9223372036854775808) : ∀ i, i ≤ 5 → CarI f (carL f i).1 (carL f i).2 i
  | 0, _ => CarI.start f
  | i + 1, h => by
    have := (carL_is hf i (by omega)).step hf (by omega)
    have e1 : (carL f (i + 1)).1 = car1 (carL f i).1 (carL f i).2 i := by simp only [carL, car1, upd_same]
    have e2 : (carL f (i + 1)).2 = ((carL f i).1 i + (carL f i).2) >>> 51 := by simp only [carL, upd_same]
    rw [e1, e2]; exact this
theorem fCar_is {f : Five} (hf : ∀ j, j < 5 → (f j).toNat < 9223372036854775808) : CarP f (fCar f) := (carL_is hf 5 (Nat.le_refl _)).done
theorem Sm.car {f : Five} (h : Sm f) : CarP f (fCar f) := fCar_is fun j hj => Nat.lt_trans (h j hj) (by decide)
def LE (b : Nat → UInt8) : Nat := num 8 (fun i => (b i).toNat) 32
theorem tb_mul (c : Bool) (t s : Nat) : (c.toNat * 2 ^ t).testBit s = (decide (s = t) && c) := by
  cases c
  · simp
  · simp [Nat.testBit_two_pow, eq_comm]
theorem fbit8 (x : UInt8) {s : Nat} (hs : s < 8) : ((if s < 8 then x >>> UInt8.ofNat s else 0) &&& 1).toNat = (x.toNat.testBit s).toNat := by
  rw [if_pos hs, UInt8.toNat_and, UInt8.toNat_shiftRight, UInt8.toNat_ofNat_of_lt' (by have : UInt8.size = 256 := rfl; omega), Nat.mod_eq_of_lt hs]
  show (x.toNat >>> s) &&& 1 = _
  rw [Nat.and_one_is_mod, Nat.testBit, Nat.and_comm, Nat.and_one_is_mod]
  have := Nat.mod_two_eq_zero_or_one (x.toNat >>> s)
  rcases this with h | h <;> rw [h] <;> rfl
theorem fbit64 (x : UInt64) {s : Nat} (hs : s < 64) : ((if s < 64 then x >>> UInt64.ofNat s else 0) &&& 1).toNat = (x.toNat.testBit s).toNat := by
  rw [if_pos hs, UInt64.toNat_and, UInt64.toNat_shiftRight, UInt64.toNat_ofNat_of_lt' (by have : UInt64.size = 18446744073709551616 := rfl; omega), Nat.mod_eq_of_lt hs]
  show (x.toNat >>> s) &&& 1 = _
  rw [Nat.and_one_is_mod, Nat.testBit, Nat.and_comm, Nat.and_one_is_mod]
  have := Nat.mod_two_eq_zero_or_one (x.toNat >>> s)
  rcases this with h | h <;> rw [h] <;> rfl
theorem put64 {c : UInt8} {b : Bool} (hc : c.toNat = b.toNat) {t : Nat} (ht : t < 51) : (if t < 64 then c.toUInt64 <<< UInt64.ofNat t else 0).toNat = b.toNat * 2 ^ t := by
  rw [if_pos (by omega), UInt64.toNat_shiftLeft, UInt64.toNat_ofNat_of_lt' (by have : UInt64.size = 18446744073709551616 := rfl; omega), UInt8.toNat_toUInt64, hc, Nat.mod_eq_of_lt (show t < 64 by omega), Nat.shiftLeft_eq]
  refine Nat.mod_eq_of_lt ?_
  have : 2 ^ t ≤ 2 ^ 51 := Nat.pow_le_pow_right (by decide) (by omega)
  cases b
  · simp
  · simp; omega
theorem put8 {c : UInt64} {b : Bool} (hc : c.toNat = b.toNat) {t : Nat} (ht : t < 8) : (if t < 8 then c.toUInt8 <<< UInt8.ofNat t else 0).toNat = b.toNat * 2 ^ t := by
  have hb : b.toNat ≤ 1 := by cases b <;> decide
  rw [if_pos ht, UInt8.toNat_shiftLeft, UInt8.toNat_ofNat_of_lt' (by have : UInt8.size = 256 := rfl; omega), UInt64.toNat_toUInt8, hc, Nat.mod_eq_of_lt (show b.toNat < 2 ^ 8 by omega), Nat.mod_eq_of_lt ht, Nat.shiftLeft_eq]
  refine Nat.mod_eq_of_lt ?_
  have : 2 ^ t ≤ 2 ^ 7 := Nat.pow_le_pow_right (by decide) (by omega)
  cases b
  · simp
  · simp; omega
theorem ofL_bit (b : Nat → UInt8) : ∀ n, n ≤ 255 → ∀ j, ∀ t, (ofL b n j).toNat.testBit t = (decide (t < 51 ∧ 51 * j + t < n) && (b ((51 * j + t) / 8)).toNat.testBit ((51 * j + t) % 8))
  | 0, _, j, t => by simp [ofL]
  | n + 1, h, j, t => by
    have ih := ofL_bit b n (by omega)
    simp only [ofL, upd]
    by_cases hj : j = n / 51
    · subst hj
      rw [if_pos rfl, UInt64.toNat_or, put64 (fbit8 (b (n / 8)) (Nat.mod_lt n (by decide))) (Nat.mod_lt n (by decide)), Nat.testBit_or, ih, tb_mul]
      by_cases ht : t = n % 51
      · subst ht
        have e : 51 * (n / 51) + n % 51 = n := Nat.div_add_mod n 51
        rw [e]
        have h1 : n % 51 < 51 := Nat.mod_lt _ (by decide)
        simp [h1]
      · have e1 : decide (t = n % 51) = false := decide_eq_false ht
        have e2 : (t < 51 ∧ 51 * (n / 51) + t < n + 1) ↔ (t < 51 ∧ 51 * (n / 51) + t < n) := by
          have := Nat.div_add_mod n 51; omega
        rw [e1, Bool.false_and, Bool.or_false]
        simp only [e2]
    · rw [if_neg hj, ih]
      have e2 : (t < 51 ∧ 51 * j + t < n + 1) ↔ (t < 51 ∧ 51 * j + t < n) := by
        have := Nat.div_add_mod n 51; have := Nat.mod_lt n (show 0 < 51 by decide); omega
      simp only [e2]
theorem lt_of_bits {x k : Nat} (h : ∀ t, k ≤ t → x.testBit t = false) : x < 2 ^ k := by
  apply Classical.byContradiction
  intro hn
  obtain ⟨i, hi, hb⟩ := Nat.exists_ge_and_testBit_of_ge_two_pow (Nat.le_of_not_lt hn)
  rw [h i hi] at hb; cases hb
theorem fOf_di (b : Nat → UInt8) : Di (fOf b) := fun j hj => lt_of_bits (k := 51) fun t ht => by
  unfold fOf
  rw [ofL_bit b 255 (Nat.le_refl _), decide_eq_false (by omega), Bool.false_and]
theorem LE_bit (b : Nat → UInt8) (t : Nat) : (LE b).testBit t = (decide (t < 256) && (b (t / 8)).toNat.testBit (t % 8)) :=
  num_bit (by decide) 32 (fun i _ => (b i).toNat_lt) t
theorem V5_bit {f : Five} (h : Di f) (t : Nat) : (V5 f).testBit t = (decide (t < 255) && (f (t / 51)).toNat.testBit (t % 51)) := num_bit (w := 51) (by decide) 5 h t
theorem fOf_V5 (b : Nat → UInt8) : V5 (fOf b) = LE b % 2 ^ 255 := by
  apply Nat.eq_of_testBit_eq
  intro t
  rw [V5_bit (fOf_di b), Nat.testBit_mod_two_pow, LE_bit]
  by_cases ht : t < 255
  · have e : 51 * (t / 51) + t % 51 = t := Nat.div_add_mod t 51
    have h1 : t % 51 < 51 := Nat.mod_lt _ (by decide)
    rw [decide_eq_true ht, decide_eq_true (show t < 256 by omega), Bool.true_and, Bool.true_and, Bool.true_and]
    unfold fOf
    rw [ofL_bit b 255 (Nat.le_refl _), e, decide_eq_true ⟨h1, ht⟩, Bool.true_and]
  · rw [decide_eq_false ht, Bool.false_and, Bool.false_and]
theorem outL_bit (a : Five) : ∀ n, n ≤ 255 → ∀ j, ∀ t, (foutL a n j).toNat.testBit t = (decide (t < 8 ∧ 8 * j + t < n) && (a ((8 * j + t) / 51)).toNat.testBit ((8 * j + t) % 51))
  | 0, _, j, t => by simp [foutL]
  | n + 1, h, j, t => by
    have ih := outL_bit a n (by omega)
    simp only [foutL, upd]
    by_cases hj : j = n / 8
    · subst hj
      rw [if_pos rfl, UInt8.toNat_or, put8 (fbit64 (a (n / 51)) (show n % 51 < 64 by have := Nat.mod_lt n (show 0 < 51 by decide); omega)) (Nat.mod_lt n (by decide)), Nat.testBit_or, ih, tb_mul]
      by_cases ht : t = n % 8
      · subst ht
        have e : 8 * (n / 8) + n % 8 = n := Nat.div_add_mod n 8
        rw [e]
        have h1 : n % 8 < 8 := Nat.mod_lt _ (by decide)
        simp [h1]
      · have e1 : decide (t = n % 8) = false := decide_eq_false ht
        have e2 : (t < 8 ∧ 8 * (n / 8) + t < n + 1) ↔ (t < 8 ∧ 8 * (n / 8) + t < n) := by
          have := Nat.div_add_mod n 8; omega
        rw [e1, Bool.false_and, Bool.or_false]
        simp only [e2]
    · rw [if_neg hj, ih]
      have e2 : (t < 8 ∧ 8 * j + t < n + 1) ↔ (t < 8 ∧ 8 * j + t < n) := by
        have := Nat.div_add_mod n 8; have := Nat.mod_lt n (show 0 < 8 by decide); omega
      simp only [e2]
theorem outL_LE {a : Five} (h : Di a) : LE (foutL a 255) = V5 a := by
  apply Nat.eq_of_testBit_eq
  intro t
  rw [V5_bit h, LE_bit]
  by_cases ht : t < 256
  · have e : 8 * (t / 8) + t % 8 = t := Nat.div_add_mod t 8
    have h1 : t % 8 < 8 := Nat.mod_lt _ (by decide)
    rw [decide_eq_true ht, Bool.true_and, outL_bit a 255 (Nat.le_refl _), e]
    simp only [h1, true_and]
  · rw [decide_eq_false ht, decide_eq_false (show ¬ t < 255 by omega), Bool.false_and, Bool.false_and]
theorem LE_inj {b c : Nat → UInt8} (h : LE b = LE c) : ∀ i, i < 32 → b i = c i := fun i hi => by
  apply UInt8.toNat_inj.1
  apply Nat.eq_of_testBit_eq
  intro t
  by_cases ht : t < 8
  · have h1 := LE_bit b (8 * i + t)
    have h2 := LE_bit c (8 * i + t)
    rw [h, h2, decide_eq_true (show 8 * i + t < 256 by omega), Bool.true_and, Bool.true_and, show (8 * i + t) / 8 = i by omega, show (8 * i + t) % 8 = t by omega] at h1
    exact h1.symm
  · have h8 : 2 ^ 8 ≤ 2 ^ t := Nat.pow_le_pow_right (by decide) (by omega)
    have hb := (b i).toNat_lt; have hc := (c i).toNat_lt
    rw [Nat.testBit_lt_two_pow (by omega), Nat.testBit_lt_two_pow (by omega)]
theorem bcaL_at (A : Five) : bcaL A 4 0 = A 0 &&& 2251799813685247 ∧ bcaL A 4 1 = (A 1 + A 0 >>> 51) &&& 2251799813685247 ∧ bcaL A 4 2 = (A 2 + (A 1 + A 0 >>> 51) >>> 51) &&& 2251799813685247 ∧ bcaL A 4 3 = (A 3 + (A 2 + (A 1 + A 0 >>> 51) >>> 51) >>> 51) &&& 2251799813685247 ∧ bcaL A 4 4 = A 4 + (A 3 + (A 2 + (A 1 + A 0 >>> 51) >>> 51) >>> 51) >>> 51 := by
  refine ⟨?_, ?_, ?_, ?_, ?_⟩ <;> simp [bcaL, upd]
theorem bcan_V5 {a : Five} (h : Di a) : Di (bcan a) ∧ V5 (bcan a) = V5 a % q255 := by
  have a0 := h 0 (by decide); have a1 := h 1 (by decide); have a2 := h 2 (by decide); have a3 := h 3 (by decide); have a4 := h 4 (by decide)
  have hV := V5_is a
  have o0 : (bovL a 0).toNat = (a 0).toNat + 19 := by
    show (a 0 + 19).toNat = _
    rw [UInt64.toNat_add]; show ((a 0).toNat + 19) % _ = _; omega
  have o1 : (bovL a 1).toNat = (a 1).toNat + ((a 0).toNat + 19) / 2251799813685248 := by
    show (a 1 + bovL a 0 >>> 51).toNat = _
    rw [UInt64.toNat_add, u64_shr51, o0]; omega
  have o2 : (bovL a 2).toNat = (a 2).toNat + ((a 1).toNat + ((a 0).toNat + 19) / 2251799813685248) / 2251799813685248 := by
    show (a 2 + bovL a 1 >>> 51).toNat = _
    rw [UInt64.toNat_add, u64_shr51, o1]; omega
  have o3 : (bovL a 3).toNat = (a 3).toNat + ((a 2).toNat + ((a 1).toNat + ((a 0).toNat + 19) / 2251799813685248) / 2251799813685248) / 2251799813685248 := by
    show (a 3 + bovL a 2 >>> 51).toNat = _
    rw [UInt64.toNat_add, u64_shr51, o2]; omega
  have o4 : (bovL a 4).toNat = (a 4).toNat + ((a 3).toNat + ((a 2).toNat + ((a 1).toNat + ((a 0).toNat + 19) / 2251799813685248) / 2251799813685248) / 2251799813685248) / 2251799813685248 := by
    show (a 4 + bovL a 3 >>> 51).toNat = _
    rw [UInt64.toNat_add, u64_shr51, o3]; omega
  have hq : (bovL a 4 >>> 51).toNat = (V5 a + 19) / 57896044618658097711785492504343953926634992332820282019728792003956564819968 := by
    rw [u64_shr51, o4, hV]; omega
  have hVlt := h.lt
  unfold bcan
  generalize bovL a 4 >>> 51 = q at *
  have hq1 : q.toNat ≤ 1 := by rw [hq]; omega
  have y0 : (a 0 + 19 * q).toNat = (a 0).toNat + 19 * q.toNat := by
    rw [UInt64.toNat_add, UInt64.toNat_mul]; show ((a 0).toNat + 19 * q.toNat % _) % _ = _; omega
  obtain ⟨b0, b1, b2, b3, b4⟩ := bcaL_at (upd a 0 (a 0 + 19 * q))
  rw [upd_same, upd_other _ _ _ (show 1 ≠ 0 by decide)] at b1 b2 b3 b4
  rw [upd_same] at b0
  rw [upd_other _ _ _ (show 2 ≠ 0 by decide)] at b2 b3 b4
  rw [upd_other _ _ _ (show 3 ≠ 0 by decide)] at b3 b4
  rw [upd_other _ _ _ (show 4 ≠ 0 by decide)] at b4
  generalize bcaL (upd a 0 (a 0 + 19 * q)) 4 = c at *
  have y1 : (a 1 + (a 0 + 19 * q) >>> 51).toNat = (a 1).toNat + ((a 0).toNat + 19 * q.toNat) / 2251799813685248 := by rw [UInt64.toNat_add, u64_shr51, y0]; omega
  have y2 : (a 2 + (a 1 + (a 0 + 19 * q) >>> 51) >>> 51).toNat = (a 2).toNat + ((a 1).toNat + ((a 0).toNat + 19 * q.toNat) / 2251799813685248) / 2251799813685248 := by rw [UInt64.toNat_add, u64_shr51, y1]; omega
  have y3 : (a 3 + (a 2 + (a 1 + (a 0 + 19 * q) >>> 51) >>> 51) >>> 51).toNat = (a 3).toNat + ((a 2).toNat + ((a 1).toNat + ((a 0).toNat + 19 * q.toNat) / 2251799813685248) / 2251799813685248) / 2251799813685248 := by rw [UInt64.toNat_add, u64_shr51, y2]; omega
  have y4 : (a 4 + (a 3 + (a 2 + (a 1 + (a 0 + 19 * q) >>> 51) >>> 51) >>> 51) >>> 51).toNat = (a 4).toNat + ((a 3).toNat + ((a 2).toNat + ((a 1).toNat + ((a 0).toNat + 19 * q.toNat) / 2251799813685248) / 2251799813685248) / 2251799813685248) / 2251799813685248 := by rw [UInt64.toNat_add, u64_shr51, y3]; omega
  have c0 := congrArg UInt64.toNat b0; have c1 := congrArg UInt64.toNat b1; have c2 := congrArg UInt64.toNat b2; have c3 := congrArg UInt64.toNat b3; have c4 := congrArg UInt64.toNat b4
  rw [u64_and51, y0] at c0
  rw [u64_and51, y1] at c1
  rw [u64_and51, y2] at c2
  rw [u64_and51, y3] at c3
  rw [y4] at c4
  have d4 : (upd c 4 (c 4 &&& 2251799813685247) 4).toNat = (c 4).toNat % 2251799813685248 := by rw [upd_same, u64_and51]
  have dj : ∀ j, j < 4 → upd c 4 (c 4 &&& 2251799813685247) j = c j := fun j hj => upd_other _ _ _ (by omega)
  refine ⟨fun j hj => ?_, ?_⟩
  · by_cases h4 : j = 4
    · subst h4; rw [d4]; exact Nat.mod_lt _ (by decide)
    · have : j = 0 ∨ j = 1 ∨ j = 2 ∨ j = 3 := by omega
      rw [dj j (by omega)]
      rcases this with rfl | rfl | rfl | rfl
      · rw [c0]; exact Nat.mod_lt _ (by decide)
      · rw [c1]; exact Nat.mod_lt _ (by decide)
      · rw [c2]; exact Nat.mod_lt _ (by decide)
      · rw [c3]; exact Nat.mod_lt _ (by decide)
  · have hW := V5_is (upd c 4 (c 4 &&& 2251799813685247))
    rw [d4, dj 0 (by decide), dj 1 (by decide), dj 2 (by decide), dj 3 (by decide)] at hW
    have hsum : V5 (upd c 4 (c 4 &&& 2251799813685247)) = (V5 a + 19 * q.toNat) % 57896044618658097711785492504343953926634992332820282019728792003956564819968 := by
      rw [hW, hV, c0, c1, c2, c3, c4]; omega
    rw [hsum]
    have hp : q255 = 57896044618658097711785492504343953926634992332820282019728792003956564819949 := rfl
    rw [hp]
    clear hsum hW hV c0 c1 c2 c3 c4 y0 y1 y2 y3 y4 o0 o1 o2 o3 o4
    have : q.toNat = 0 ∨ q.toNat = 1 := by omega
    rcases this with h0 | h0 <;> rw [h0] at hq ⊢ <;> omega
theorem fBytes_LE {f : Five} (h : Sm f) : LE (fBytes f) = (FV f).val := by
  have p1 := h.car
  have p2 := p1.s.car
  have d2 : Di (fCar (fCar f)) := p2.cl (by
    have e := V5_is (fCar f)
    have := p1.sm; have := p1.di 1 (by decide) (by decide); have := p1.di 2 (by decide) (by decide); have := p1.di 3 (by decide) (by decide); have := p1.di 4 (by decide) (by decide)
    omega)
  have p3 := d2.sm.car
  have d3 : Di (fCar (fCar (fCar f))) := p3.cl (by have := d2.lt; omega)
  have hb := bcan_V5 d3
  unfold fBytes
  rw [outL_LE hb.1, hb.2]
  have e := (p3.val.trans p2.val).trans p1.val
  exact congrArg Fin.val e
theorem fBytes_eq {f g : Five} (hf : Sm f) (hg : Sm g) (h : FV f = FV g) : ∀ i, i < 32 → fBytes f i = fBytes g i := LE_inj (by rw [fBytes_LE hf, fBytes_LE hg, h])
theorem FV_of (b : Nat → UInt8) : (FV (fOf b)).val = LE b % 2 ^ 255 % q255 := by
  show V5 (fOf b) % q255 = _
  rw [fOf_V5]
theorem FV_back {f : Five} (hf : Sm f) : FV (fOf (fBytes f)) = FV f := by
  apply Fin.ext
  rw [FV_of, fBytes_LE hf]
  have h := (FV f).isLt
  have hp : q255 = 57896044618658097711785492504343953926634992332820282019728792003956564819949 := rfl
  have e : (2 : Nat) ^ 255 = 57896044618658097711785492504343953926634992332820282019728792003956564819968 := by kernel_rfl
  have e2 : (FV f).val % 57896044618658097711785492504343953926634992332820282019728792003956564819968 = (FV f).val := Nat.mod_eq_of_lt (by omega)
  rw [e, e2]
  exact Nat.mod_eq_of_lt h
theorem fBytes_ne {f : Five} (hf : Sm f) (h : FV f ≠ 0) : ((List.range 32).all fun i => fBytes f i == 0) = false := by
  rw [← Bool.not_eq_true, List.all_eq_true]
  intro h0
  apply h
  apply Fin.ext
  rw [← fBytes_LE hf]
  have : LE (fBytes f) = num 8 (fun _ => 0) 32 := num_congr 32 fun i hi => by
    have := h0 i (List.mem_range.2 hi)
    rw [eq_of_beq this]; rfl
  rw [this]; rfl
end Go.Proofs.YtdkjdioccpoacaaDoor
set_option linter.unusedSimpArgs false
set_option linter.unusedVariables false
set_option maxRecDepth 100000
namespace Go.Proofs.YtdkjdioccpoacaaDoor
open Go
theorem addL_at (f g : Five) : ∀ n j, addL f g n j = if j < n then f j + g j else f j
  | 0, j => by simp [addL]
  | n + 1, j => by
    simp only [addL, upd]
    by_cases hj : j = n
    · subst hj; rw [if_pos rfl, if_pos (by omega), addL_at f g j j, if_neg (by omega)]
    · rw [if_neg hj, addL_at f g n j]
      by_cases h : j < n
      · rw [if_pos h, if_pos (by omega)]
      · rw [if_neg h, if_neg (by omega)]
theorem fAdd_is {f g : Five} (hf : Sm f) (hg : Sm g) : Sm (fAdd f g) ∧ FV (fAdd f g) = FV f + FV g := by
  have hd : ∀ j, j < 5 → (addL f g 5 j).toNat = (f j).toNat + (g j).toNat := fun j hj => by
    have := hf j hj; have := hg j hj
    rw [addL_at, if_pos hj, UInt64.toNat_add]; omega
  have hc := fCar_is (f := addL f g 5) fun j hj => by rw [hd j hj]; have := hf j hj; have := hg j hj; omega
  refine ⟨hc.s, ?_⟩
  show FV (fCar (addL f g 5)) = _
  rw [hc.val]
  have hV : V5 (addL f g 5) = V5 f + V5 g := by
    rw [V5_is, V5_is, V5_is, hd 0 (by decide), hd 1 (by decide), hd 2 (by decide), hd 3 (by decide), hd 4 (by decide)]; omega
  apply Fin.ext
  show V5 (addL f g 5) % q255 = _
  rw [hV, Fin.val_add, Nat.add_mod]; rfl
theorem subL_at (f g : Five) : ∀ n j, subL f g n j = if j < n then f j + (most j - g j) else f j
  | 0, j => by simp [subL]
  | n + 1, j => by
    simp only [subL, upd]
    by_cases hj : j = n
    · subst hj; rw [if_pos rfl, if_pos (by omega), subL_at f g j j, if_neg (by omega)]
    · rw [if_neg hj, subL_at f g n j]
      by_cases h : j < n
      · rw [if_pos h, if_pos (by omega)]
      · rw [if_neg h, if_neg (by omega)]
theorem most_0 : (most 0).toNat = 9007199254740916 := by decide
theorem most_s {j : Nat} (h : j ≠ 0) : (most j).toNat = 9007199254740988 := by unfold most; rw [if_neg h]; rfl
theorem fSub_is {f g : Five} (hf : Sm f) (hg : Sm g) : Sm (fSub f g) ∧ FV (fSub f g) = FV f - FV g := by
  have hd : ∀ j, j < 5 → (subL f g 5 j).toNat + (g j).toNat = (f j).toNat + (most j).toNat ∧ (subL f g 5 j).toNat < 18014398509481984 := fun j hj => by
    have h1 := hf j hj; have h2 := hg j hj
    have hm : (most j).toNat = 9007199254740916 ∨ (most j).toNat = 9007199254740988 := by
      by_cases h0 : j = 0
      · subst h0; exact .inl most_0
      · exact .inr (most_s h0)
    have hs : (most j - g j).toNat = (most j).toNat - (g j).toNat := UInt64.toNat_sub_of_le _ _ (by rw [UInt64.le_iff_toNat_le]; omega)
    rw [subL_at, if_pos hj, UInt64.toNat_add, hs]; omega
  have hc := fCar_is (f := subL f g 5) fun j hj => by have := (hd j hj).2; omega
  refine ⟨hc.s, ?_⟩
  show FV (fCar (subL f g 5)) = _
  rw [hc.val]
  have hV : V5 (subL f g 5) + V5 g = V5 f + q255 * 4 := by
    have h0 := (hd 0 (by decide)).1; have h1 := (hd 1 (by decide)).1; have h2 := (hd 2 (by decide)).1; have h3 := (hd 3 (by decide)).1; have h4 := (hd 4 (by decide)).1
    rw [most_0] at h0
    rw [most_s (by decide)] at h1 h2 h3 h4
    have hp : q255 = 57896044618658097711785492504343953926634992332820282019728792003956564819949 := rfl
    rw [V5_is, V5_is, V5_is, hp]; omega
  have hs : FV (subL f g 5) + FV g = FV f := by
    apply Fin.ext
    rw [Fin.val_add]
    show (V5 (subL f g 5) % q255 + V5 g % q255) % q255 = V5 f % q255
    rw [← Nat.add_mod, hV, Nat.add_mul_mod_self_left]
  rw [← hs]; grind
def Val (s : Five × Five) (k : Nat) : Nat := (s.1 k).toNat * 18446744073709551616 + (s.2 k).toNat
theorem addC_nat (x y : UInt64) : (addC x y).toNat = (x.toNat + y.toNat) / 18446744073709551616 := by
  unfold addC
  have hx := x.toNat_lt; have hy := y.toNat_lt
  exact UInt64.toNat_ofNat_of_lt' (by have : UInt64.size = 18446744073709551616 := rfl; omega)
theorem mul1_val {i j : Nat} {x y : UInt64} {s : Five × Five} (hxy : x.toNat * (mulY i j y).toNat ≤ 649037107316853453566312041152512) (hs : ∀ k, Val s k < 20769187434139310514121985316880384) (k : Nat) :
    Val (mul1 i j x y s) k = Val s k + if k = mulK i j then x.toNat * (mulY i j y).toNat else 0 := by
  unfold mul1 Val
  simp only [upd]
  by_cases hk : k = mulK i j
  · rw [if_pos hk, if_pos hk, if_pos hk]
    have h1 := hs (mulK i j)
    unfold Val at h1
    rw [hk]
    have hm := mulH_nat x (mulY i j y)
    have hl : (x * mulY i j y).toNat = x.toNat * (mulY i j y).toNat % 18446744073709551616 := UInt64.toNat_mul _ _
    generalize mulH x (mulY i j y) = H at *
    generalize x * mulY i j y = L at *
    generalize x.toNat * (mulY i j y).toNat = n at *
    have hc := addC_nat (s.2 (mulK i j)) L
    have l2 := (s.2 (mulK i j)).toNat_lt
    rw [UInt64.toNat_add, UInt64.toNat_add, UInt64.toNat_add, hc, hm, hl]
    omega
  · rw [if_neg hk, if_neg hk, if_neg hk, Nat.add_zero]
def TJ (i : Nat) (x : Nat) (y : Nat → Nat) (k : Nat) : Nat → Nat
  | 0 => 0
  | j + 1 => TJ i x y k j + if k = mulK i j then x * (if 5 ≤ i + j then y j * 19 else y j) else 0
def TI (x y : Nat → Nat) (k : Nat) : Nat → Nat
  | 0 => 0
  | i + 1 => TI x y k i + TJ i (x i) y k 5
theorem mulY_nat {i j : Nat} {y : UInt64} (h : y.toNat < 4503599627370496) : (mulY i j y).toNat = if 5 ≤ i + j then y.toNat * 19 else y.toNat := by
  unfold mulY
  split
  · rw [UInt64.toNat_mul]; show y.toNat * 19 % _ = _; omega
  · rfl
theorem xy_le {i j : Nat} {x y : UInt64} (hx : x.toNat < 4503599627370496) (hy : y.toNat < 4503599627370496) : x.toNat * (mulY i j y).toNat ≤ 649037107316853453566312041152512 := by
  rw [mulY_nat hy]
  have : x.toNat * (if 5 ≤ i + j then y.toNat * 19 else y.toNat) ≤ 4503599627370496 * 144115188075855872 := Nat.mul_le_mul (by omega) (by split <;> omega)
  exact Nat.le_trans this (by decide)
theorem mulJ_val {i : Nat} {x : UInt64} {g : Five} {s : Five × Five} (hx : x.toNat < 4503599627370496) (hg : Sm g) (m B : Nat) (hB : B = 649037107316853453566312041152512) (hm : m ≤ 20) (hs : ∀ k, Val s k ≤ m * B) (j : Nat) : j ≤ 5 → ∀ k,
    Val (mulJ i x g s j) k = Val s k + TJ i x.toNat (fun j => (g j).toNat) k j ∧ TJ i x.toNat (fun j => (g j).toNat) k j ≤ j * B := by
  induction j with
  | zero => intro _ k; exact ⟨(Nat.add_zero _).symm, Nat.zero_le _⟩
  | succ j ih0 =>
    intro hj k
    have ih := ih0 (by omega)
    have hy := hg j (by omega)
    have hb := xy_le (i := i) (j := j) hx hy
    have hbnd : ∀ k, Val (mulJ i x g s j) k < 20769187434139310514121985316880384 := fun k => by
      have h1 := (ih k).1; have h2 := (ih k).2; have h3 := hs k
      have h4 : m * B ≤ 20 * B := Nat.mul_le_mul_right _ hm
      have h5 : j * B ≤ 5 * B := Nat.mul_le_mul_right _ (by omega)
      omega
    have h1 := mul1_val (s := mulJ i x g s j) hb hbnd k
    rw [mulY_nat hy] at h1 hb
    constructor
    · show Val (mul1 i j x (g j) (mulJ i x g s j)) k = _
      rw [h1, (ih k).1, Nat.add_assoc]; rfl
    · show TJ i x.toNat (fun j => (g j).toNat) k j + (if k = mulK i j then x.toNat * (if 5 ≤ i + j then (g j).toNat * 19 else (g j).toNat) else 0) ≤ _
      have := (ih k).2
      rw [Nat.succ_mul]
      split
      · omega
      · omega
theorem mulI_val {f g : Five} (hf : Sm f) (hg : Sm g) (B : Nat) (hB : B = 649037107316853453566312041152512) (i : Nat) : i ≤ 5 → ∀ k, Val (mulI f g i) k = TI (fun j => (f j).toNat) (fun j => (g j).toNat) k i ∧ Val (mulI f g i) k ≤ i * 5 * B := by
  induction i with
  | zero => intro _ k; have e : Val (mulI f g 0) k = 0 := (by unfold Val; simp [mulI]); rw [e]; exact ⟨rfl, Nat.zero_le _⟩
  | succ i ih0 =>
    intro hi k
    have ih := ih0 (by omega)
    have h1 := mulJ_val (i := i) (s := mulI f g i) (hf i (by omega)) hg (i * 5) B hB (by omega) (fun k => (ih k).2) 5 (Nat.le_refl _) k
    constructor
    · show Val (mulJ i (f i) g (mulI f g i) 5) k = _
      rw [h1.1, (ih k).1]; rfl
    · show Val (mulJ i (f i) g (mulI f g i) 5) k ≤ _
      have := (ih k).2
      rw [h1.1, show (i + 1) * 5 * B = i * 5 * B + 5 * B by rw [Nat.succ_mul i 5, Nat.add_mul]]
      have := h1.2
      omega
structure MouI (s : Five × Five) (p : Five × UInt64) (n : Nat) : Prop where
  lo : ∀ j, j < n → (p.1 j).toNat < 2251799813685248
  ov : p.2.toNat < 9223372036854775808
  eq : num 51 (fun j => (p.1 j).toNat) n + p.2.toNat * 2 ^ (51 * n) = num 51 (Val s) n
theorem or_shift {h l : UInt64} (hh : h.toNat < 2251799813685248) : (h <<< 13 ||| l >>> 51).toNat = (h.toNat * 18446744073709551616 + l.toNat) / 2251799813685248 := by
  have ll := l.toNat_lt
  rw [UInt64.toNat_or, u64_shr51, UInt64.toNat_shiftLeft]
  show h.toNat <<< 13 % 2 ^ 64 ||| l.toNat / 2251799813685248 = _
  rw [Nat.shiftLeft_eq, Nat.mod_eq_of_lt (by omega), Nat.mul_comm, ← Nat.two_pow_add_eq_or_of_lt (by omega)]
  omega
theorem mouL_is {s : Five × Five} (hs : ∀ k, k < 5 → Val s k ≤ 16225927682921336339157801028812800) : ∀ n, n ≤ 5 → MouI s (mouL s n) n
  | 0, _ => ⟨fun j hj => absurd hj (Nat.not_lt_zero _), (by show (0 : UInt64).toNat < _; decide), by simp [num, mouL]⟩
  | n + 1, hn => by
    obtain ⟨h1, h2, h3⟩ := mouL_is hs n (by omega)
    have hv := hs n (by omega)
    have hx : ((s.1 n + addC (s.2 n) (mouL s n).2).toNat) * 18446744073709551616 + (s.2 n + (mouL s n).2).toNat = Val s n + (mouL s n).2.toNat := by
      rw [UInt64.toNat_add, UInt64.toNat_add, addC_nat]
      unfold Val at hv ⊢
      have := (s.2 n).toNat_lt
      omega
    have hh : (s.1 n + addC (s.2 n) (mouL s n).2).toNat < 2251799813685248 := by omega
    have e1 : (mouL s (n + 1)).2.toNat = (Val s n + (mouL s n).2.toNat) / 2251799813685248 := by
      show ((s.1 n + addC (s.2 n) (mouL s n).2) <<< 13 ||| (s.2 n + (mouL s n).2) >>> 51).toNat = _
      rw [or_shift hh, hx]
    have e2 : ((mouL s (n + 1)).1 n).toNat = (Val s n + (mouL s n).2.toNat) % 2251799813685248 := by
      show (upd (mouL s n).1 n ((s.2 n + (mouL s n).2) &&& 2251799813685247) n).toNat = _
      rw [upd_same, u64_and51]; omega
    have e3 : ∀ j, j ≠ n → (mouL s (n + 1)).1 j = (mouL s n).1 j := fun j hj => upd_other _ _ _ hj
    refine ⟨fun j hj => ?_, ?_, ?_⟩
    · by_cases h : j = n
      · subst h; rw [e2]; exact Nat.mod_lt _ (by decide)
      · rw [e3 j h]; exact h1 j (by omega)
    · rw [e1]; omega
    · rw [num, num, e1, e2]
      have e4 : num 51 (fun j => ((mouL s (n + 1)).1 j).toNat) n = num 51 (fun j => ((mouL s n).1 j).toNat) n := num_congr n fun j hj => by rw [e3 j (by omega)]
      rw [e4, Nat.mul_succ, Nat.pow_add]
      have e5 := split_mul (Val s n + (mouL s n).2.toNat) (2 ^ (51 * n)) 2251799813685248
      have e6 : (Val s n + (mouL s n).2.toNat) * 2 ^ (51 * n) = Val s n * 2 ^ (51 * n) + (mouL s n).2.toNat * 2 ^ (51 * n) := Nat.add_mul _ _ _
      have e7 : (2 : Nat) ^ 51 = 2251799813685248 := rfl
      rw [e7]; omega
theorem mfin_is {p : Five × UInt64} (h : ∀ j, j < 5 → (p.1 j).toNat < 2251799813685248) : (∀ j, j < 5 → (mfin p j).toNat < 9223372036854775808) ∧ V5 (mfin p) = V5 p.1 + 19 * p.2.toNat := by
  have lo := p.2.toNat_lt
  have a0 := h 0 (by decide); have a1 := h 1 (by decide)
  have e0 : (mfin p 0).toNat = (p.1 0).toNat + 19 * (p.2.toNat % 2251799813685248) := by
    unfold mfin
    rw [upd_other _ _ _ (by decide), upd_same, UInt64.toNat_add, UInt64.toNat_mul, u64_and51]
    show ((p.1 0).toNat + 19 * (p.2.toNat % 2251799813685248) % _) % _ = _
    omega
  have e1 : (mfin p 1).toNat = (p.1 1).toNat + 19 * (p.2.toNat / 2251799813685248) := by
    unfold mfin
    rw [upd_same, upd_other _ _ _ (by decide), UInt64.toNat_add, UInt64.toNat_mul, u64_shr51]
    show ((p.1 1).toNat + 19 * (p.2.toNat / 2251799813685248) % _) % _ = _
    omega
  have ej : ∀ j, 2 ≤ j → mfin p j = p.1 j := fun j hj => by unfold mfin; rw [upd_other _ _ _ (by omega), upd_other _ _ _ (by omega)]
  constructor
  · intro j hj
    by_cases h0 : j = 0
    · subst h0; rw [e0]; omega
    · by_cases h1 : j = 1
      · subst h1; rw [e1]; omega
      · rw [ej j (by omega)]; have := h j hj; omega
  · rw [V5_is, V5_is, e0, e1, ej 2 (by decide), ej 3 (by decide), ej 4 (by decide)]; omega
theorem poly5 (f0 f1 f2 f3 f4 g0 g1 g2 g3 g4 W : Nat) : (f0 + f1 * W + f2 * (W * W) + f3 * (W * W * W) + f4 * (W * W * W * W)) * (g0 + g1 * W + g2 * (W * W) + g3 * (W * W * W) + g4 * (W * W * W * W)) =
    (f0 * g0 + (f0 * g1 + f1 * g0) * W + (f0 * g2 + f1 * g1 + f2 * g0) * (W * W) + (f0 * g3 + f1 * g2 + f2 * g1 + f3 * g0) * (W * W * W) + (f0 * g4 + f1 * g3 + f2 * g2 + f3 * g1 + f4 * g0) * (W * W * W * W)) +
    ((f1 * g4 + f2 * g3 + f3 * g2 + f4 * g1) + (f2 * g4 + f3 * g3 + f4 * g2) * W + (f3 * g4 + f4 * g3) * (W * W) + f4 * g4 * (W * W * W)) * (W * W * W * W * W) := by grind
theorem w5 : (2251799813685248 * 2251799813685248 * 2251799813685248 * 2251799813685248 * 2251799813685248 : Nat) = 57896044618658097711785492504343953926634992332820282019728792003956564819968 := by kernel_rfl
theorem V5_w (f : Five) : V5 f = (f 0).toNat + (f 1).toNat * 2251799813685248 + (f 2).toNat * (2251799813685248 * 2251799813685248) + (f 3).toNat * (2251799813685248 * 2251799813685248 * 2251799813685248) + (f 4).toNat * (2251799813685248 * 2251799813685248 * 2251799813685248 * 2251799813685248) := by
  rw [V5_is]
theorem fMul_is {f g : Five} (hf : Sm f) (hg : Sm g) : Sm (fMul f g) ∧ FV (fMul f g) = FV f * FV g := by
  have hv := mulI_val hf hg _ rfl 5 (Nat.le_refl _)
  have hm := mouL_is (s := mulI f g 5) (fun k hk => (hv k).2) 5 (Nat.le_refl _)
  have hn := mfin_is (p := mouL (mulI f g 5) 5) hm.lo
  have hc := fCar_is hn.1
  refine ⟨hc.s, ?_⟩
  show FV (fCar (mfin (mouL (mulI f g 5) 5))) = _
  rw [hc.val]
  apply Fin.ext
  rw [Fin.val_mul]
  show V5 (mfin (mouL (mulI f g 5) 5)) % q255 = (V5 f % q255 * (V5 g % q255)) % q255
  rw [← Nat.mul_mod, hn.2, p_wrap]
  have he : V5 (mouL (mulI f g 5) 5).1 + (mouL (mulI f g 5) 5).2.toNat * 57896044618658097711785492504343953926634992332820282019728792003956564819968 = num 51 (Val (mulI f g 5)) 5 := hm.eq
  rw [he]
  have hN : num 51 (Val (mulI f g 5)) 5 = num 51 (fun k => TI (fun j => (f j).toNat) (fun j => (g j).toNat) k 5) 5 := num_congr 5 fun k hk => (hv k).1
  have hT : num 51 (fun k => TI (fun j => (f j).toNat) (fun j => (g j).toNat) k 5) 5 = TI (fun j => (f j).toNat) (fun j => (g j).toNat) 0 5 + TI (fun j => (f j).toNat) (fun j => (g j).toNat) 1 5 * 2251799813685248 + TI (fun j => (f j).toNat) (fun j => (g j).toNat) 2 5 * (2251799813685248 * 2251799813685248) + TI (fun j => (f j).toNat) (fun j => (g j).toNat) 3 5 * (2251799813685248 * 2251799813685248 * 2251799813685248) + TI (fun j => (f j).toNat) (fun j => (g j).toNat) 4 5 * (2251799813685248 * 2251799813685248 * 2251799813685248 * 2251799813685248) := by
    simp [num]
  rw [hN, hT, V5_w, V5_w, poly5]
  have t0 : TI (fun j => (f j).toNat) (fun j => (g j).toNat) 0 5 = (f 0).toNat * (g 0).toNat + 19 * ((f 1).toNat * (g 4).toNat + (f 2).toNat * (g 3).toNat + (f 3).toNat * (g 2).toNat + (f 4).toNat * (g 1).toNat) := by simp [TI, TJ, mulK]; grind
  have t1 : TI (fun j => (f j).toNat) (fun j => (g j).toNat) 1 5 = ((f 0).toNat * (g 1).toNat + (f 1).toNat * (g 0).toNat) + 19 * ((f 2).toNat * (g 4).toNat + (f 3).toNat * (g 3).toNat + (f 4).toNat * (g 2).toNat) := by simp [TI, TJ, mulK]; grind
  have t2 : TI (fun j => (f j).toNat) (fun j => (g j).toNat) 2 5 = ((f 0).toNat * (g 2).toNat + (f 1).toNat * (g 1).toNat + (f 2).toNat * (g 0).toNat) + 19 * ((f 3).toNat * (g 4).toNat + (f 4).toNat * (g 3).toNat) := by simp [TI, TJ, mulK]; grind
  have t3 : TI (fun j => (f j).toNat) (fun j => (g j).toNat) 3 5 = ((f 0).toNat * (g 3).toNat + (f 1).toNat * (g 2).toNat + (f 2).toNat * (g 1).toNat + (f 3).toNat * (g 0).toNat) + 19 * ((f 4).toNat * (g 4).toNat) := by simp [TI, TJ, mulK]; grind
  have t4 : TI (fun j => (f j).toNat) (fun j => (g j).toNat) 4 5 = (f 0).toNat * (g 4).toNat + (f 1).toNat * (g 3).toNat + (f 2).toNat * (g 2).toNat + (f 3).toNat * (g 1).toNat + (f 4).toNat * (g 0).toNat := by simp [TI, TJ, mulK]
  rw [t0, t1, t2, t3, t4, w5, ← p_wrap]
  generalize (f 0).toNat * (g 0).toNat = p00
  generalize (f 0).toNat * (g 1).toNat = p01
  generalize (f 0).toNat * (g 2).toNat = p02
  generalize (f 0).toNat * (g 3).toNat = p03
  generalize (f 0).toNat * (g 4).toNat = p04
  generalize (f 1).toNat * (g 0).toNat = p10
  generalize (f 1).toNat * (g 1).toNat = p11
  generalize (f 1).toNat * (g 2).toNat = p12
  generalize (f 1).toNat * (g 3).toNat = p13
  generalize (f 1).toNat * (g 4).toNat = p14
  generalize (f 2).toNat * (g 0).toNat = p20
  generalize (f 2).toNat * (g 1).toNat = p21
  generalize (f 2).toNat * (g 2).toNat = p22
  generalize (f 2).toNat * (g 3).toNat = p23
  generalize (f 2).toNat * (g 4).toNat = p24
  generalize (f 3).toNat * (g 0).toNat = p30
  generalize (f 3).toNat * (g 1).toNat = p31
  generalize (f 3).toNat * (g 2).toNat = p32
  generalize (f 3).toNat * (g 3).toNat = p33
  generalize (f 3).toNat * (g 4).toNat = p34
  generalize (f 4).toNat * (g 0).toNat = p40
  generalize (f 4).toNat * (g 1).toNat = p41
  generalize (f 4).toNat * (g 2).toNat = p42
  generalize (f 4).toNat * (g 3).toNat = p43
  generalize (f 4).toNat * (g 4).toNat = p44
  congr 1
  clear hf hg hv hm hn hc he hN hT t0 t1 t2 t3 t4
  omega
end Go.Proofs.YtdkjdioccpoacaaDoor
set_option linter.unusedSimpArgs false
set_option linter.unusedVariables false
set_option maxRecDepth 100000
namespace Go.Proofs.YtdkjdioccpoacaaDoor
open Go
def invE : Nat → Nat
  | 0 => 0
  | n + 1 => if n = 252 ∨ n = 250 then invE n + invE n else invE n + invE n + 1
theorem invE_is : invE 255 = 57896044618658097711785492504343953926634992332820282019728792003956564819947 := by kernel_rfl
theorem FV_one : FV fOne = 1 := by
  apply Fin.ext
  show V5 fOne % q255 = _
  kernel_rfl
theorem fOne_sm : Sm fOne := fun i hi => by
  unfold fOne
  split <;> decide
theorem invL_is {f : Five} (hf : Sm f) : ∀ n, Sm (invL f n) ∧ FV (invL f n) = fpow (FV f) (invE n)
  | 0 => ⟨fOne_sm, FV_one⟩
  | n + 1 => by
    obtain ⟨h1, h2⟩ := invL_is hf n
    have hs := fMul_is h1 h1
    have e : FV (fMul (invL f n) (invL f n)) = fpow (FV f) (invE n + invE n) := by rw [hs.2, h2, fpow_add]
    unfold invL invE
    by_cases hn : n = 252 ∨ n = 250
    · rw [if_pos hn, if_pos hn]; exact ⟨hs.1, e⟩
    · rw [if_neg hn, if_neg hn]
      have ht := fMul_is hs.1 hf
      exact ⟨ht.1, by rw [ht.2, e]; rfl⟩
theorem fInv_is {f : Five} (hf : Sm f) : Sm (fInv f) ∧ FV (fInv f) = finv (FV f) := by
  have := invL_is hf 255
  rw [invE_is, ← finv_pow] at this
  exact this
theorem fOf_sm (b : Nat → UInt8) : Sm (fOf b) := (fOf_di b).sm
theorem small_c : FV (fSmall [65, 219, 1]) = 121665 := by
  apply Fin.ext; unfold fSmall; rw [FV_of]; kernel_rfl
theorem small_1 : FV (fSmall [1]) = 1 := by
  apply Fin.ext; unfold fSmall; rw [FV_of]; kernel_rfl
theorem small_0 : FV (fSmall []) = 0 := by
  apply Fin.ext; unfold fSmall; rw [FV_of]; kernel_rfl
structure PtI (p : Pt) (X Z : F) : Prop where
  sx : Sm p.x
  sz : Sm p.z
  x : FV p.x = X
  z : FV p.z = Z
theorem stepP_is {p : Pt} {X Z : F} (h : PtI p X Z) : PtI (stepP p) (dblX X Z) (dblZ X Z) := by
  obtain ⟨sx, sz, hx, hz⟩ := h
  have hS := fAdd_is sx sz; have hT := fSub_is sx sz
  have hSS := fMul_is hS.1 hS.1; have hTT := fMul_is hT.1 hT.1
  have hE := fSub_is hSS.1 hTT.1
  have hc := fMul_is (fOf_sm (fun i => [65, 219, 1].getD i 0)) hE.1
  have hA := fAdd_is hSS.1 hc.1
  have h1 := fMul_is hSS.1 hTT.1; have h2 := fMul_is hE.1 hA.1
  have hcc : FV (fOf fun i => [65, 219, 1].getD i 0) = 121665 := small_c
  refine ⟨h1.1, h2.1, ?_, ?_⟩
  · exact (by rw [h1.2, hSS.2, hTT.2, hS.2, hT.2, hx, hz] : FV (fMul _ _) = _)
  · exact (by rw [h2.2, hA.2, hc.2, hcc, hE.2, hSS.2, hTT.2, hS.2, hT.2, hx, hz] : FV (fMul _ _) = _)
theorem stepQ_is {p q : Pt} {u : Five} {X Z X2 Z2 U : F} (h : PtI p X Z) (h2 : PtI q X2 Z2) (su : Sm u) (hu : FV u = U) : PtI (stepQ p q u) (addX X Z X2 Z2) (addZ U X Z X2 Z2) := by
  obtain ⟨sx, sz, hx, hz⟩ := h
  obtain ⟨sx2, sz2, hx2, hz2⟩ := h2
  have hS := fAdd_is sx sz; have hT := fSub_is sx sz
  have hS2 := fAdd_is sx2 sz2; have hT2 := fSub_is sx2 sz2
  have hA := fMul_is hS2.1 hT.1; have hB := fMul_is hT2.1 hS.1
  have hs := fAdd_is hA.1 hB.1; have hd := fSub_is hA.1 hB.1
  have h1 := fMul_is hs.1 hs.1; have h3 := fMul_is hd.1 hd.1
  have h4 := fMul_is su h3.1
  refine ⟨h1.1, h4.1, ?_, ?_⟩
  · exact (by rw [h1.2, hs.2, hA.2, hB.2, hS.2, hT.2, hS2.2, hT2.2, hx, hz, hx2, hz2] : FV (fMul _ _) = _)
  · exact (by rw [h4.2, h3.2, hd.2, hA.2, hB.2, hS.2, hT.2, hS2.2, hT2.2, hx, hz, hx2, hz2, hu] : FV (fMul _ _) = _)
theorem addX_swap (a b c d : F) : addX a b c d = addX c d a b := by unfold addX; grind
theorem addZ_swap (u a b c d : F) : addZ u a b c d = addZ u c d a b := by unfold addZ; grind
def bitsL (n : Nat → UInt8) (k : Nat) : List Bool := (List.range k).map fun i => bitN n (254 - i)
theorem bitsL_succ (n : Nat → UInt8) (k : Nat) : bitsL n (k + 1) = bitsL n k ++ [bitN n (254 - k)] := by unfold bitsL; rw [List.range_succ, List.map_append]; rfl
theorem lad_app (u : F) (l : List Bool) (b : Bool) : lad u (l ++ [b]) = lstep u b (lad u l) := by unfold lad; rw [List.foldl_append]; rfl
def TimI (u : F) (s : Pt × Pt × Bool) (l : LS) : Prop :=
  if s.2.2 then PtI s.1 l.X2 l.Z2 ∧ PtI s.2.1 l.X1 l.Z1 else PtI s.1 l.X1 l.Z1 ∧ PtI s.2.1 l.X2 l.Z2
theorem timL_is (n : Nat → UInt8) {u : Five} (su : Sm u) : ∀ k, TimI (FV u) (timL n u k) (lad (FV u) (bitsL n k))
  | 0 => by
    unfold TimI
    rw [if_neg (show ¬ (timL n u 0).2.2 = true from Bool.false_ne_true)]
    exact ⟨⟨fOf_sm _, fOf_sm _, small_1, small_0⟩, ⟨su, fOf_sm _, rfl, small_1⟩⟩
  | k + 1 => by
    have ih := timL_is n su k
    rw [bitsL_succ, lad_app]
    generalize hb : bitN n (254 - k) = b
    have hp : PtI ⟨if b != (timL n u k).2.2 then (timL n u k).2.1.x else (timL n u k).1.x, if b != (timL n u k).2.2 then (timL n u k).2.1.z else (timL n u k).1.z⟩ (if b then (lad (FV u) (bitsL n k)).X2 else (lad (FV u) (bitsL n k)).X1) (if b then (lad (FV u) (bitsL n k)).Z2 else (lad (FV u) (bitsL n k)).Z1) := by
      unfold TimI at ih
      generalize (timL n u k).2.2 = was at *
      cases b <;> cases was <;> simp at ih ⊢
      · exact ih.1
      · exact ih.2
      · exact ih.2
      · exact ih.1
    have hq : PtI ⟨if b != (timL n u k).2.2 then (timL n u k).1.x else (timL n u k).2.1.x, if b != (timL n u k).2.2 then (timL n u k).1.z else (timL n u k).2.1.z⟩ (if b then (lad (FV u) (bitsL n k)).X1 else (lad (FV u) (bitsL n k)).X2) (if b then (lad (FV u) (bitsL n k)).Z1 else (lad (FV u) (bitsL n k)).Z2) := by
      unfold TimI at ih
      generalize (timL n u k).2.2 = was at *
      cases b <;> cases was <;> simp at ih ⊢
      · exact ih.2
      · exact ih.1
      · exact ih.1
      · exact ih.2
    have h1 := stepP_is hp
    have h2 := stepQ_is hp hq su rfl
    have e1 : (timL n u (k + 1)).1 = stepP ⟨if b != (timL n u k).2.2 then (timL n u k).2.1.x else (timL n u k).1.x, if b != (timL n u k).2.2 then (timL n u k).2.1.z else (timL n u k).1.z⟩ := by subst hb; rfl
    have e2 : (timL n u (k + 1)).2.1 = stepQ ⟨if b != (timL n u k).2.2 then (timL n u k).2.1.x else (timL n u k).1.x, if b != (timL n u k).2.2 then (timL n u k).2.1.z else (timL n u k).1.z⟩ ⟨if b != (timL n u k).2.2 then (timL n u k).1.x else (timL n u k).2.1.x, if b != (timL n u k).2.2 then (timL n u k).1.z else (timL n u k).2.1.z⟩ u := by subst hb; rfl
    have e3 : (timL n u (k + 1)).2.2 = b := hb
    unfold TimI
    rw [e1, e2, e3]
    generalize stepP _ = P at *
    generalize stepQ _ _ _ = Q at *
    cases b
    · simp only [Bool.false_eq_true, if_false] at *
      exact ⟨h1, h2⟩
    · simp only [if_true] at *
      rw [addX_swap, addZ_swap] at h2
      exact ⟨h1, h2⟩
theorem fTimes_is (n a : Nat → UInt8) : ∃ r : Five, Sm r ∧ fTimes n a = fBytes r ∧ FV r = times (FV (fOf a)) (bitsL n 255) := by
  have h := timL_is n (fOf_sm a) 255
  unfold fTimes
  generalize timL n (fOf a) 255 = s at *
  unfold TimI at h
  unfold times
  obtain ⟨p, q, b⟩ := s
  cases b
  · simp only [Bool.false_eq_true, if_false] at h ⊢
    obtain ⟨sx, sz, hx, hz⟩ := h.1
    have hi := fInv_is sz
    have hm := fMul_is sx hi.1
    exact ⟨_, hm.1, rfl, by rw [hm.2, hi.2, hx, hz]⟩
  · simp only [if_true] at h ⊢
    obtain ⟨sx, sz, hx, hz⟩ := h.2
    have hi := fInv_is sz
    have hm := fMul_is sx hi.1
    exact ⟨_, hm.1, rfl, by rw [hm.2, hi.2, hx, hz]⟩
theorem fold_lt (l : List Bool) : ∀ e, e * 2 ^ l.length ≤ l.foldl (fun e b => 2 * e + b.toNat) e ∧ l.foldl (fun e b => 2 * e + b.toNat) e < (e + 1) * 2 ^ l.length := by
  induction l with
  | nil => intro e; simp
  | cons b l ih =>
    intro e
    have h := ih (2 * e + b.toNat)
    have hb : b.toNat ≤ 1 := by cases b <;> decide
    simp only [List.foldl_cons, List.length_cons, Nat.pow_succ]
    constructor
    · refine Nat.le_trans ?_ h.1
      rw [← Nat.mul_assoc, Nat.mul_right_comm]
      exact Nat.mul_le_mul_right _ (by omega)
    · refine Nat.lt_of_lt_of_le h.2 ?_
      rw [← Nat.mul_assoc, Nat.mul_right_comm]
      exact Nat.mul_le_mul_right _ (by omega)
theorem ofBits_true (l : List Bool) : ofBits (true :: l) = l.foldl (fun (e : Nat) (b : Bool) => 2 * e + b.toNat) 1 := rfl
theorem bitsL_mul (n : Nat → UInt8) : ∃ k, ofBits (bitsL n 255) = 8 * k ∧ 2 ^ 251 ≤ k ∧ k < 2 ^ 252 := by
  have e : bitsL n 255 = bitsL n 252 ++ [false] ++ [false] ++ [false] := by
    rw [bitsL_succ, bitsL_succ, bitsL_succ]; rfl
  have e2 : bitsL n 252 = true :: (List.range 251).map (fun i => bitN n (254 - (i + 1))) := by
    unfold bitsL
    rw [List.range_succ_eq_map, List.map_cons, List.map_map]; rfl
  refine ⟨ofBits (bitsL n 252), ?_, ?_⟩
  · rw [e, ofBits_app, ofBits_app, ofBits_app]
    show 2 * (2 * (2 * _ + 0) + 0) + 0 = _
    omega
  · rw [e2]
    have h := fold_lt ((List.range 251).map fun i => bitN n (254 - (i + 1))) 1
    rw [List.length_map, List.length_range] at h
    rw [ofBits_true]
    rw [Nat.one_mul] at h
    exact ⟨h.1, by have := h.2; rwa [show (2 : Nat) ^ 252 = (1 + 1) * 2 ^ 251 by rw [Nat.pow_succ, Nat.mul_comm]]⟩
theorem bitsL_ne (n : Nat → UInt8) : ¬ ordL ∣ ofBits (bitsL n 255) := by
  obtain ⟨k, e, h1, h2⟩ := bitsL_mul n
  rw [e]; exact clamp_ne h1 h2
theorem base_9 : FV (fOf fun i => if i = 0 then 9 else 0) = 9 := by
  apply Fin.ext; rw [FV_of]; kernel_rfl
theorem fTimes_comm (a b : Nat → UInt8) : (∀ i, i < 32 → fTimes a (fTimes b fun i => if i = 0 then 9 else 0) i = fTimes b (fTimes a fun i => if i = 0 then 9 else 0) i) ∧ ((List.range 32).all fun i => fTimes a (fTimes b fun i => if i = 0 then 9 else 0) i == 0) = false := by
  obtain ⟨r, sr, er, vr⟩ := fTimes_is b fun i => if i = 0 then 9 else 0
  obtain ⟨s, ss, es, vs⟩ := fTimes_is a fun i => if i = 0 then 9 else 0
  rw [base_9] at vr vs
  obtain ⟨p, sp, ep, vp⟩ := fTimes_is a (fBytes r)
  obtain ⟨q, sq, eq, vq⟩ := fTimes_is b (fBytes s)
  rw [FV_back sr, vr] at vp
  rw [FV_back ss, vs] at vq
  have h := times_comm (bitsL_ne a) (bitsL_ne b)
  rw [er, es, ep, eq]
  exact ⟨fBytes_eq sp sq (by rw [vp, vq, h.1]), fBytes_ne sp (by rw [vp]; exact h.2)⟩
end Go.Proofs.YtdkjdioccpoacaaDoor
set_option linter.unusedSimpArgs false
set_option linter.unusedVariables false
set_option maxRecDepth 100000
set_option maxHeartbeats 4000000
namespace Go.Proofs.YtdkjdioccpoacaaDoor
open Go
open List (getD_cons_zero getD_cons_succ set_cons_zero set_cons_succ)
def shaKL : List UInt32 := [1116352408, 1899447441, 3049323471, 3921009573, 961987163, 1508970993, 2453635748, 2870763221, 3624381080, 310598401, 607225278, 1426881987, 1925078388, 2162078206, 2614888103, 3248222580, 3835390401, 4022224774, 264347078, 604807628, 770255983, 1249150122, 1555081692, 1996064986, 2554220882, 2821834349, 2952996808, 3210313671, 3336571891, 3584528711, 113926993, 338241895, 666307205, 773529912, 1294757372, 1396182291, 1695183700, 1986661051, 2177026350, 2456956037, 2730485921, 2820302411, 3259730800, 3345764771, 3516065817, 3600352804, 4094571909, 275423344, 430227734, 506948616, 659060556, 883997877, 958139571, 1322822218, 1537002063, 1747873779, 1955562222, 2024104815, 2227730452, 2361852424, 2428436474, 2756734187, 3204031479, 3329325298]
def shaHL : List UInt32 := [1779033703, 3144134277, 1013904242, 2773480762, 1359893119, 2600822924, 528734635, 1541459225]
def shaK (i : Nat) : UInt32 := shaKL.getD i 0
def shaH (i : Nat) : UInt32 := shaHL.getD i 0
def Cel (w : World) (g n : Nat) (f : Nat → UInt32) : Prop := ∀ i, i < n → w.cell? ⟨g, i, none⟩ = some (V32 (f i))
theorem Cel.chg {w w' : World} {g n : Nat} {f : Nat → UInt32} (h : Cel w g n f) {S : List Nat} (hc : Chg S w w') (hn : g ∉ S) : Cel w' g n f := fun i hi => hc.cell (h i hi) hn
theorem Cel.grow {w w' : World} {g n : Nat} {f : Nat → UInt32} (h : Cel w g n f) (hc : Chg [] w w') : Cel w' g n f := h.chg hc (by simp)
def Tabs (w : World) : Prop := Cel w 0 8 shaH ∧ Cel w 1 64 shaK
theorem Tabs.grow {w w' : World} (h : Tabs w) (hc : Chg [] w w') : Tabs w' := ⟨h.1.grow hc, h.2.grow hc⟩
theorem Tabs.chg {w w' : World} (h : Tabs w) {S : List Nat} (hc : Chg S w w') (h0 : 0 ∉ S) (h1 : 1 ∉ S) : Tabs w' := ⟨h.1.chg hc h0, h.2.chg hc h1⟩
section
variable {P : Program} {a : Act} {w : World} {d : Option Tmp} {ty : TypeId} {pos : String} {af : Array Edge} {g : Option (Nat × Bool)} {x : Operand} {t : TypeId}
theorem qr_cel1 {D : TypeDesc} {b n i : Nat} {f : Nat → UInt32} (h : Cel w b n f) (hx : a.eval x = PT b i) (hu : P.underlying t = some D) (hD : isAggD D = false) (hi : i < n) : QRun P ⟨d, .load t x, ty, pos, af, g⟩ a w (V32 (f i)) := qr_load1 hx hu hD (h i hi)
theorem qr_celN {D : TypeDesc} {b n : Nat} {f : Nat → UInt32} (h : Cel w b n f) (hx : a.eval x = PT b 0) (hu : P.underlying t = some D) (hD : isAggD D = true) (hs : szc P t = some n) : QRun P ⟨d, .load t x, ty, pos, af, g⟩ a w (.agg (arr32 n f)) := .of_l fun w' hw => by
  refine run_ok_value (w := w') ?_
  have hl := run_loadN (P := P) (w := w') (b := b) (o := 0) (cs := arr32 n f) hu hD hs (fun j hj => by rw [Nat.zero_add, (h.grow hw) j hj, arr32_get hj]) (by simp)
  simp only [hx, Instr.loadAt, Instr.sureAddr, Sem.run_bind, Sem.run_pure, Result.andThen_ok]
  rw [hl, Nat.zero_add, show (arr32 n f).extract 0 n = arr32 n f by rw [← arr32_size n f]; simp]
end
def rotS (k : Int) : UInt64 := UInt64.ofNat (k % 18446744073709551616).toNat &&& 31
def rotF (x : UInt32) (k : Int) : UInt32 := (if (rotS k).toNat < 32 then x <<< UInt32.ofNat (rotS k).toNat else 0) ||| (if (32 - rotS k).toNat < 32 then x >>> UInt32.ofNat (32 - rotS k).toNat else 0)
def shaWord (p : Nat → UInt8) (i : Nat) : UInt32 := (p (4 * i)).toUInt32 <<< 24 ||| (p (4 * i + 1)).toUInt32 <<< 16 ||| (p (4 * i + 2)).toUInt32 <<< 8 ||| (p (4 * i + 3)).toUInt32
def shaW (p : Nat → UInt8) (n : Nat) : UInt32 :=
  if n < 16 then shaWord p n
  else shaW p (n - 16) + (rotF (shaW p (n - 15)) (-7) ^^^ rotF (shaW p (n - 15)) (-18) ^^^ shaW p (n - 15) >>> 3) + shaW p (n - 7) + (rotF (shaW p (n - 2)) (-17) ^^^ rotF (shaW p (n - 2)) (-19) ^^^ shaW p (n - 2) >>> 10)
termination_by n
decreasing_by all_goals omega
theorem shaW_lo (p : Nat → UInt8) {n : Nat} (h : n < 16) : shaW p n = shaWord p n := by rw [shaW, if_pos h]
theorem shaW_hi (p : Nat → UInt8) {n : Nat} (h : ¬ n < 16) : shaW p n = shaW p (n - 16) + (rotF (shaW p (n - 15)) (-7) ^^^ rotF (shaW p (n - 15)) (-18) ^^^ shaW p (n - 15) >>> 3) + shaW p (n - 7) + (rotF (shaW p (n - 2)) (-17) ^^^ rotF (shaW p (n - 2)) (-19) ^^^ shaW p (n - 2) >>> 10) := by
  rw [shaW, if_neg h]
def shaT (s : Nat → UInt32) (k x : UInt32) : UInt32 := s 7 + (rotF (s 4) (-6) ^^^ rotF (s 4) (-11) ^^^ rotF (s 4) (-25)) + (s 6 ^^^ s 4 &&& (s 5 ^^^ s 6)) + k + x
def shaU (s : Nat → UInt32) : UInt32 := rotF (s 0) (-2) ^^^ rotF (s 0) (-13) ^^^ rotF (s 0) (-22)
def shaM (s : Nat → UInt32) : UInt32 := s 0 &&& s 1 ||| s 2 &&& (s 0 ||| s 1)
def shaR (r w : Nat → UInt32) : Nat → Nat → UInt32
  | 0 => r
  | n + 1 => fun j => if j = 0 then shaT (shaR r w n) (shaK n) (w n) + (shaU (shaR r w n) + shaM (shaR r w n)) else if j = 4 then shaR r w n 3 + shaT (shaR r w n) (shaK n) (w n) else shaR r w n (j - 1)
def shaB (r : Nat → UInt32) (p : Nat → UInt8) (j : Nat) : UInt32 := r j + shaR r (shaW p) 64 j
theorem rot_calls (x : UInt32) (k : Int) (w : World) : Ret Tryd.prog 87 #[V32 x, I64 k] w fun v w' => v = V32 (rotF x k) ∧ Chg [] w w' := by
 refine Ret.enter Tryd.func87 rfl ?_
 simp only [Tryd.ntmps87, fe, Nat.reduceAdd, Nat.reduceSub]
 have hH := Hp.start [] w
 refine wp_seq_k ?_
 intro K1 hK1
 refine wrt [.p 0] ?_
 refine pa ?_;simp only [nf]
 refine plan_nil hH ?_
 clear hH
 intro w2 hH
 refine hK1 _ _ ?_
 (try clear hK1 K1)
 refine wp_seq_k ?_
 intro K3 hK3
 refine wrt [.p 0, .p 1, .p 2, .p 3] ?_
 refine pm ?_;simp only [nf]
 refine pp rfl rfl (pr_conv rfl (by first | exact cnv_n_u64 Tryd.underlying3 Tryd.underlying75 | exact cnv_i_u64 Tryd.underlying3 Tryd.underlying75)) ?_;simp only [nf]
 refine pp rfl rfl (pr_bin rfl rfl (bin_and_u64 _ 31)) ?_;simp only [nf]
 refine pa ?_;simp only [nf]
 refine plan_nil hH ?_
 clear hH
 intro w4 hH
 refine hK3 _ _ ?_
 (try clear hK3 K3)
 refine wp_seq_k ?_
 intro K5 hK5
 refine wrt [.p 0, .p 1, .p 2, .p 3, .p 4, .p 5, .p 6, .p 7, .p 8] ?_
 refine pm (pm ?_);simp only [nf]
 refine pp rfl rfl (pr_bin rfl rfl (bin_shl_u32 _ _ _)) ?_;simp only [nf]
 refine pm (pm ?_);simp only [nf]
 refine pp rfl rfl (pr_bin rfl rfl (bin_sub_u64 32 _)) ?_;simp only [nf]
 refine pp rfl rfl (pr_bin rfl rfl (bin_shr_u32 _ _ _)) ?_;simp only [nf]
 refine pp rfl rfl (pr_bin rfl rfl (bin_or_u32 _ _)) ?_;simp only [nf]
 refine pa ?_;simp only [nf]
 refine plan_nil hH ?_
 clear hH
 intro w6 hH
 refine hK5 _ _ ?_
 (try clear hK5 K5)
 refine wp_ret ?_
 (try simp only [Exit.then, Exit.inBlock, ↓reduceIte, Nat.reduceEqDiff])
 refine BP.ret1 rfl rfl ?_
 exact ⟨rfl, hH.chg⟩
theorem list8 (f : Nat → UInt32) (q : Nat) (h : q < 8) : [f 0, f 1, f 2, f 3, f 4, f 5, f 6, f 7].getD q 0 = f q := by
  have : q = 0 ∨ q = 1 ∨ q = 2 ∨ q = 3 ∨ q = 4 ∨ q = 5 ∨ q = 6 ∨ q = 7 := by omega
  rcases this with rfl | rfl | rfl | rfl | rfl | rfl | rfl | rfl <;> rfl
theorem shamix_calls (r : Nat → UInt32) (v : Value) (l : List UInt8) (w : World) (hT : Tabs w) (hv : Sl w v l) (h64 : 64 ≤ l.length) : Ret Tryd.prog 57 #[.agg (arr32 8 r), v] w fun v' w' => v' = .agg (arr32 8 (shaB r (fun i => l.getD i 0))) ∧ Chg [] w w' := by
 refine Ret.enter Tryd.func57 rfl ?_
 simp only [Tryd.ntmps57, fe, Nat.reduceAdd, Nat.reduceSub]
 have hH := Hp.start [] w
 refine wp_seq_k ?_
 intro K1 hK1
 refine wrt [.x 0, .x 1] ?_
 refine plan_box rfl rfl hH rfl ?_
 clear hH
 intro b2 w3 hH
 (try simp only [nf, nh, Value.cells, arrB_set] at hH ⊢)
 refine plan_alloc rfl rfl hH zc118 ?_
 clear hH
 intro b4 w5 hH
 (try simp only [nf, nh, Value.cells, arrB_set] at hH ⊢)
 refine plan_nil hH ?_
 clear hH
 intro w6 hH
 refine hK1 _ _ ?_
 (try clear hK1 K1)
 refine wp_seq_k ?_
 intro K7 hK7
 refine wrt [.x 0] ?_
 refine plan_alloc rfl rfl hH zc158 ?_
 clear hH
 intro b8 w9 hH
 (try simp only [nf, nh, Value.cells, arrB_set] at hH ⊢)
 refine plan_nil hH ?_
 clear hH
 intro w10 hH
 refine hK7 _ _ ?_
 (try clear hK7 K7)
 refine wp_seq_k ?_
 intro K11 hK11
 refine wp_seq_k ?_
 intro K12 hK12
 refine wrt [.p 0] ?_
 refine pk 0 ?_;simp only [nf]
 refine plan_nil hH ?_
 clear hH
 intro w13 hH
 refine hK12 _ _ ?_
 (try clear hK12 K12)
 refine wp_block ?_
 obtain ⟨kc14, hkc15, hN⟩ := hH.name 1 rfl
 replace hH := hN; clear hN; simp only [List.set_cons_zero, List.set_cons_succ] at hH
 refine wp_loopT [23] [6, 7, 8, 24, 25, 26, 27, 28, 29, 30, 31, 32, 33, 34, 35, 36, 37, 38, 39, 40, 41, 42, 43, 44, 45, 46, 47, 48, 49, 50, 51, 52, 53, 54, 55, 56, 57, 58, 59, 60, 61, 62, 63, 64, 65, 66, 67, 68, 69, 70, 71, 72, 73, 74, 75, 76, 77, 78, 79, 80, 81, 82, 83, 84, 85, 86, 87, 88, 89, 90, 91, 92, 93, 94, 95, 96, 97, 98, 99, 100, 101, 102] (fun (n16 : Nat) (vs : List Value) (w' : World) => ∃ (i : Nat), vs = [I64 (i : Nat)] ∧ Hp [] w w' [(some b2, 118, arr32 8 r), (some b4, 118, kc14), (some b8, 158, arr32 64 fun j => if j < i then shaW (fun i => l.getD i 0) j else 0)] ∧ n16 = 64 - i ∧ i ≤ 64) (64 - 0) (by kernel_rfl) ?_ ?_
 ·
  simp only [ga]
  refine ⟨0, rfl, ?_, rfl, ?_⟩
  ·
   exact hH.say 2 rfl (arr32_congr fun j hj => by rw [if_neg (by omega)])
  · first | omega | (omega)
 clear hH
 intro n16 vs17 w18 hR19 d0
 obtain ⟨i, rfl, hH, hn20, hf21⟩ := hR19
 simp only [putAll, putD, List.set_cons_zero, List.set_cons_succ, Nat.zero_add, Nat.reduceAdd]
 subst hkc15
 refine wp_seq_k ?_
 intro K22 hK22
 refine wrt [.p 0] ?_
 refine pp rfl rfl (pr_bin rfl rfl (by first | exact bin_lss_n (n := 64)  | exact bin_lss_i)) ?_;simp only [nf]
 refine plan_nil hH ?_
 clear hH
 intro w23 hH
 refine hK22 _ _ ?_
 (try clear hK22 K22)
 refine wp_seq_k ?_
 intro K24 hK24
 refine wp_cond_split rfl (fun hc25 => ?_) (fun hc25 => ?_)
 ·
  (try simp only [cnd] at hc25)
  refine wp_skip ?_
  refine hK24 _ _ ?_
  (try clear hK24 K24)
  refine wp_seq_k ?_
  intro K26 hK26
  refine wp_block ?_
  refine wp_seq_k ?_
  intro K27 hK27
  refine wrt [.p 0, .p 1] ?_
  refine pm (pa ?_);simp only [nf]
  refine plan_nil hH ?_
  clear hH
  intro w28 hH
  refine hK27 _ _ ?_
  (try clear hK27 K27)
  refine wp_seq_k ?_
  intro K29 hK29
  refine wp_seq_k ?_
  intro K30 hK30
  refine wrt [.p 0, .p 1] ?_
  refine pm ?_;simp only [nf]
  refine pp rfl rfl (pr_bin rfl rfl (by first | exact bin_lss_n (n := 16)  | exact bin_lss_i)) ?_;simp only [nf]
  refine plan_nil hH ?_
  clear hH
  intro w31 hH
  refine hK30 _ _ ?_
  (try clear hK30 K30)
  refine wp_cond_split rfl (fun hc32 => ?_) (fun hc32 => ?_)
  ·
   (try simp only [cnd] at hc32)
   refine wp_seq_k ?_
   intro K33 hK33
   refine wrp [.p 0, .p 1, .p 2, .p 3, .p 4, .p 8, .p 9, .p 10, .p 11, .p 12, .p 17, .p 18, .p 19, .p 20, .p 21, .p 26, .p 27, .p 28, .p 29, .p 30, .q 5, .p 6, .p 7, .q 13, .p 14, .p 15, .p 16, .q 22, .p 23, .p 24, .p 25, .q 31, .p 32, .p 33, .p 34, .e 35] ?_
   refine pm (pm (pm ?_));simp only [nf]
   refine pp rfl rfl (pr_bin rfl rfl (by first | exact bin_mul_n (m := 4) (by omega) | exact bin_mul_i (by omega) (by omega))) ?_;simp only [nf]
   refine pp rfl rfl (pr_idx_Sl (hv.chg hH.chg) rfl rfl Tryd.underlying29 sz5 (by omega)) ?_;simp only [nf]
   refine pm (pm ?_);simp only [nf]
   refine pp rfl rfl (pr_bin rfl rfl (by first | exact bin_mul_n (m := 4) (by omega) | exact bin_mul_i (by omega) (by omega))) ?_;simp only [nf]
   refine pp rfl rfl (pr_bin rfl rfl (by first | exact bin_add_n (n := 1) (by omega) | exact bin_add_i (by omega) (by omega))) ?_;simp only [nf]
   refine pp rfl rfl (pr_idx_Sl (hv.chg hH.chg) rfl rfl Tryd.underlying29 sz5 (by omega)) ?_;simp only [nf]
   refine pm (pm ?_);simp only [nf]
   refine pp rfl rfl (pr_bin rfl rfl (by first | exact bin_mul_n (m := 4) (by omega) | exact bin_mul_i (by omega) (by omega))) ?_;simp only [nf]
   refine pp rfl rfl (pr_bin rfl rfl (by first | exact bin_add_n (n := 2) (by omega) | exact bin_add_i (by omega) (by omega))) ?_;simp only [nf]
   refine pp rfl rfl (pr_idx_Sl (hv.chg hH.chg) rfl rfl Tryd.underlying29 sz5 (by omega)) ?_;simp only [nf]
   refine pm (pm ?_);simp only [nf]
   refine pp rfl rfl (pr_bin rfl rfl (by first | exact bin_mul_n (m := 4) (by omega) | exact bin_mul_i (by omega) (by omega))) ?_;simp only [nf]
   refine pp rfl rfl (pr_bin rfl rfl (by first | exact bin_add_n (n := 3) (by omega) | exact bin_add_i (by omega) (by omega))) ?_;simp only [nf]
   refine pp rfl rfl (pr_idx_Sl (hv.chg hH.chg) rfl rfl Tryd.underlying29 sz5 (by omega)) ?_;simp only [nf]
   refine pq rfl rfl (qr_load1 rfl Tryd.underlying5 rfl (Sl.cell (hv.chg hH.chg) (by omega))) ?_;simp only [nf]
   refine pp rfl rfl (pr_conv rfl (cnv_u8_u32 _ Tryd.underlying5 Tryd.underlying117)) ?_;simp only [nf]
   refine pp rfl rfl (pr_bin rfl rfl (bin_shlc_u32 24 24 (by decide) rfl _)) ?_;simp only [nf]
   refine pq rfl rfl (qr_load1 rfl Tryd.underlying5 rfl (Sl.cell (hv.chg hH.chg) (by omega))) ?_;simp only [nf]
   refine pp rfl rfl (pr_conv rfl (cnv_u8_u32 _ Tryd.underlying5 Tryd.underlying117)) ?_;simp only [nf]
   refine pp rfl rfl (pr_bin rfl rfl (bin_shlc_u32 16 16 (by decide) rfl _)) ?_;simp only [nf]
   refine pp rfl rfl (pr_bin rfl rfl (bin_or_u32 _ _)) ?_;simp only [nf]
   refine pq rfl rfl (qr_load1 rfl Tryd.underlying5 rfl (Sl.cell (hv.chg hH.chg) (by omega))) ?_;simp only [nf]
   refine pp rfl rfl (pr_conv rfl (cnv_u8_u32 _ Tryd.underlying5 Tryd.underlying117)) ?_;simp only [nf]
   refine pp rfl rfl (pr_bin rfl rfl (bin_shlc_u32 8 8 (by decide) rfl _)) ?_;simp only [nf]
   refine pp rfl rfl (pr_bin rfl rfl (bin_or_u32 _ _)) ?_;simp only [nf]
   refine pq rfl rfl (qr_load1 rfl Tryd.underlying5 rfl (Sl.cell (hv.chg hH.chg) (by omega))) ?_;simp only [nf]
   refine pp rfl rfl (pr_conv rfl (cnv_u8_u32 _ Tryd.underlying5 Tryd.underlying117)) ?_;simp only [nf]
   refine pp rfl rfl (pr_bin rfl rfl (bin_or_u32 _ _)) ?_;simp only [nf]
   refine pp rfl rfl (pr_idxA1 rfl rfl Tryd.underlying158 sz117 (by omega)) ?_;simp only [nf]
   refine plan_store1 2 rfl rfl hH rfl rfl rfl rfl sz117 (by simp <;> omega) ?_
   clear hH
   intro w34 hH
   (try simp only [nf, nh, Value.cells, arrB_set] at hH ⊢)
   refine plan_nil hH ?_
   clear hH
   intro w35 hH
   refine hK33 _ _ ?_
   (try clear hK33 K33)
   refine wp_exit ?_
   (try simp only [Exit.then, Exit.inBlock, ↓reduceIte, Nat.reduceEqDiff])
   refine hK26 _ _ ?_
   (try clear hK26 K26)
   refine wrt [.p 0, .p 1] ?_
   refine pp rfl rfl (pr_bin rfl rfl (by first | exact bin_add_n (n := 1) (by omega) | exact bin_add_i (by omega) (by omega))) ?_;simp only [nf]
   refine pm ?_;simp only [nf]
   refine plan_nil hH ?_
   clear hH
   intro w36 hH
   (try simp only [Exit.then, Exit.inBlock, ↓reduceIte, Nat.reduceEqDiff])
   refine ⟨64 - (i + 1), ?_, _, rfl, by kernel_rfl, ?_⟩
   · first | omega | (omega)
   simp only [ga]
   refine ⟨i + 1, rfl, ?_, rfl, ?_⟩
   ·
    exact hH.say 2 rfl (arr32_congr fun j hj => upd_lt (g := shaW (fun i => l.getD i 0)) (z := fun _ => 0) (by rw [shaW_lo _ (by assumption)]; rfl) j)
   · first | omega | (omega)
  ·
   (try simp only [cnd] at hc32)
   refine wp_skip ?_
   refine hK29 _ _ ?_
   (try clear hK29 K29)
   refine wp_seq_k ?_
   intro K37 hK37
   refine wrp [.p 0, .p 1, .p 2, .p 4, .p 5, .p 6, .q 3, .p 8, .q 7, .p 9] ?_
   refine pm ?_;simp only [nf]
   refine pp rfl rfl (pr_bin rfl rfl (by first | exact bin_sub_n (n := 15) (by omega) (by omega) | exact bin_sub_i (by omega) (by omega))) ?_;simp only [nf]
   refine pp rfl rfl (pr_idxA1 rfl rfl Tryd.underlying158 sz117 (by omega)) ?_;simp only [nf]
   refine pm ?_;simp only [nf]
   refine pp rfl rfl (pr_bin rfl rfl (by first | exact bin_sub_n (n := 2) (by omega) (by omega) | exact bin_sub_i (by omega) (by omega))) ?_;simp only [nf]
   refine pp rfl rfl (pr_idxA1 rfl rfl Tryd.underlying158 sz117 (by omega)) ?_;simp only [nf]
   refine pq rfl rfl (qr_load1 rfl Tryd.underlying117 rfl ((hH.blk 2 rfl).cell (arr32_get (by omega)))) ?_;simp only [nf]
   refine pa ?_;simp only [nf]
   refine pq rfl rfl (qr_load1 rfl Tryd.underlying117 rfl ((hH.blk 2 rfl).cell (arr32_get (by omega)))) ?_;simp only [nf]
   refine pa ?_;simp only [nf]
   refine plan_nil hH ?_
   clear hH
   intro w38 hH
   refine hK37 _ _ ?_
   (try clear hK37 K37)
   refine wp_seq_k ?_
   intro K39 hK39
   refine wrt [.p 0, .q 1, .p 2, .q 3, .p 4, .p 5, .p 6, .p 7, .p 8] ?_
   refine pm ?_;simp only [nf]
   refine pq rfl rfl (qr_call cf87 (fun w' hw => rot_calls _ _ w') rfl) ?_;simp only [nf]
   refine pm ?_;simp only [nf]
   refine pq rfl rfl (qr_call cf87 (fun w' hw => rot_calls _ _ w') rfl) ?_;simp only [nf]
   refine pp rfl rfl (pr_bin rfl rfl (bin_xor_u32 _ _)) ?_;simp only [nf]
   refine pm ?_;simp only [nf]
   refine pp rfl rfl (pr_bin rfl rfl (bin_shrc_u32 3 3 (by decide) rfl _)) ?_;simp only [nf]
   refine pp rfl rfl (pr_bin rfl rfl (bin_xor_u32 _ _)) ?_;simp only [nf]
   refine pa ?_;simp only [nf]
   refine plan_nil hH ?_
   clear hH
   intro w40 hH
   refine hK39 _ _ ?_
   (try clear hK39 K39)
   refine wp_seq_k ?_
   intro K41 hK41
   refine wrt [.p 0, .q 1, .p 2, .q 3, .p 4, .p 5, .p 6, .p 7, .p 8] ?_
   refine pm ?_;simp only [nf]
   refine pq rfl rfl (qr_call cf87 (fun w' hw => rot_calls _ _ w') rfl) ?_;simp only [nf]
   refine pm ?_;simp only [nf]
   refine pq rfl rfl (qr_call cf87 (fun w' hw => rot_calls _ _ w') rfl) ?_;simp only [nf]
   refine pp rfl rfl (pr_bin rfl rfl (bin_xor_u32 _ _)) ?_;simp only [nf]
   refine pm ?_;simp only [nf]
   refine pp rfl rfl (pr_bin rfl rfl (bin_shrc_u32 10 10 (by decide) rfl _)) ?_;simp only [nf]
   refine pp rfl rfl (pr_bin rfl rfl (bin_xor_u32 _ _)) ?_;simp only [nf]
   refine pa ?_;simp only [nf]
   refine plan_nil hH ?_
   clear hH
   intro w42 hH
   refine hK41 _ _ ?_
   (try clear hK41 K41)
   refine wrp [.p 0, .p 1, .p 2, .p 3, .p 5, .p 7, .p 8, .p 9, .p 12, .q 4, .p 6, .q 10, .p 11, .p 13, .p 14, .e 15] ?_
   refine pm (pm ?_);simp only [nf]
   refine pp rfl rfl (pr_bin rfl rfl (by first | exact bin_sub_n (n := 16) (by omega) (by omega) | exact bin_sub_i (by omega) (by omega))) ?_;simp only [nf]
   refine pp rfl rfl (pr_idxA1 rfl rfl Tryd.underlying158 sz117 (by omega)) ?_;simp only [nf]
   refine pm (pm ?_);simp only [nf]
   refine pp rfl rfl (pr_bin rfl rfl (by first | exact bin_sub_n (n := 7) (by omega) (by omega) | exact bin_sub_i (by omega) (by omega))) ?_;simp only [nf]
   refine pp rfl rfl (pr_idxA1 rfl rfl Tryd.underlying158 sz117 (by omega)) ?_;simp only [nf]
   refine pm ?_;simp only [nf]
   refine pq rfl rfl (qr_load1 rfl Tryd.underlying117 rfl ((hH.blk 2 rfl).cell (arr32_get (by omega)))) ?_;simp only [nf]
   refine pp rfl rfl (pr_bin rfl rfl (bin_add_u32 _ _)) ?_;simp only [nf]
   refine pq rfl rfl (qr_load1 rfl Tryd.underlying117 rfl ((hH.blk 2 rfl).cell (arr32_get (by omega)))) ?_;simp only [nf]
   refine pp rfl rfl (pr_bin rfl rfl (bin_add_u32 _ _)) ?_;simp only [nf]
   refine pp rfl rfl (pr_bin rfl rfl (bin_add_u32 _ _)) ?_;simp only [nf]
   refine pp rfl rfl (pr_idxA1 rfl rfl Tryd.underlying158 sz117 (by omega)) ?_;simp only [nf]
   refine plan_store1 2 rfl rfl hH rfl rfl rfl rfl sz117 (by simp <;> omega) ?_
   clear hH
   intro w43 hH
   (try simp only [nf, nh, Value.cells, arrB_set] at hH ⊢)
   refine plan_nil hH ?_
   clear hH
   intro w44 hH
   refine hK26 _ _ ?_
   (try clear hK26 K26)
   refine wrt [.p 0, .p 1] ?_
   refine pp rfl rfl (pr_bin rfl rfl (by first | exact bin_add_n (n := 1) (by omega) | exact bin_add_i (by omega) (by omega))) ?_;simp only [nf]
   refine pm ?_;simp only [nf]
   refine plan_nil hH ?_
   clear hH
   intro w45 hH
   (try simp only [Exit.then, Exit.inBlock, ↓reduceIte, Nat.reduceEqDiff])
   refine ⟨64 - (i + 1), ?_, _, rfl, by kernel_rfl, ?_⟩
   · first | omega | (omega)
   simp only [ga]
   refine ⟨i + 1, rfl, ?_, rfl, ?_⟩
   ·
    exact hH.say 2 rfl (arr32_congr fun j hj => upd_lt (g := shaW (fun i => l.getD i 0)) (z := fun _ => 0) (by
      simp only [show i - 16 < i by omega, show i - 15 < i by omega, show i - 7 < i by omega, show i - 2 < i by omega, if_true]
      exact (shaW_hi _ (by omega)).symm) j)
   · first | omega | (omega)
 ·
  (try simp only [cnd] at hc25)
  obtain rfl : i = 64 := by omega
  replace hH := hH.say 2 rfl (arr32_congr (g := shaW (fun i => l.getD i 0)) fun j hj => if_pos hj)
  simp only [set_cons_zero, set_cons_succ] at hH
  refine wp_exit ?_
  (try simp only [Exit.then, Exit.inBlock, ↓reduceIte, Nat.reduceEqDiff])
  refine hK11 _ _ ?_
  (try clear hK11 K11)
  refine wp_seq_k ?_
  intro K46 hK46
  refine wrp [.p 0, .p 2, .p 4, .p 6, .p 8, .p 10, .p 12, .p 14, .q 1, .p 16, .q 3, .p 17, .q 5, .p 18, .q 7, .p 19, .q 9, .p 20, .q 11, .p 21, .q 13, .p 22, .q 15, .p 23] ?_
  refine pp rfl rfl (pr_idxA1 (i := 0) rfl rfl Tryd.underlying118 sz117 (by omega)) ?_;simp only [nf]
  refine pp rfl rfl (pr_idxA1 (i := 1) rfl rfl Tryd.underlying118 sz117 (by omega)) ?_;simp only [nf]
  refine pp rfl rfl (pr_idxA1 (i := 2) rfl rfl Tryd.underlying118 sz117 (by omega)) ?_;simp only [nf]
  refine pp rfl rfl (pr_idxA1 (i := 3) rfl rfl Tryd.underlying118 sz117 (by omega)) ?_;simp only [nf]
  refine pp rfl rfl (pr_idxA1 (i := 4) rfl rfl Tryd.underlying118 sz117 (by omega)) ?_;simp only [nf]
  refine pp rfl rfl (pr_idxA1 (i := 5) rfl rfl Tryd.underlying118 sz117 (by omega)) ?_;simp only [nf]
  refine pp rfl rfl (pr_idxA1 (i := 6) rfl rfl Tryd.underlying118 sz117 (by omega)) ?_;simp only [nf]
  refine pp rfl rfl (pr_idxA1 (i := 7) rfl rfl Tryd.underlying118 sz117 (by omega)) ?_;simp only [nf]
  refine pq rfl rfl (qr_load1 rfl Tryd.underlying117 rfl ((hH.blk 0 rfl).cell (arr32_get (by omega)))) ?_;simp only [nf]
  refine pa ?_;simp only [nf]
  refine pq rfl rfl (qr_load1 rfl Tryd.underlying117 rfl ((hH.blk 0 rfl).cell (arr32_get (by omega)))) ?_;simp only [nf]
  refine pa ?_;simp only [nf]
  refine pq rfl rfl (qr_load1 rfl Tryd.underlying117 rfl ((hH.blk 0 rfl).cell (arr32_get (by omega)))) ?_;simp only [nf]
  refine pa ?_;simp only [nf]
  refine pq rfl rfl (qr_load1 rfl Tryd.underlying117 rfl ((hH.blk 0 rfl).cell (arr32_get (by omega)))) ?_;simp only [nf]
  refine pa ?_;simp only [nf]
  refine pq rfl rfl (qr_load1 rfl Tryd.underlying117 rfl ((hH.blk 0 rfl).cell (arr32_get (by omega)))) ?_;simp only [nf]
  refine pa ?_;simp only [nf]
  refine pq rfl rfl (qr_load1 rfl Tryd.underlying117 rfl ((hH.blk 0 rfl).cell (arr32_get (by omega)))) ?_;simp only [nf]
  refine pa ?_;simp only [nf]
  refine pq rfl rfl (qr_load1 rfl Tryd.underlying117 rfl ((hH.blk 0 rfl).cell (arr32_get (by omega)))) ?_;simp only [nf]
  refine pa ?_;simp only [nf]
  refine pq rfl rfl (qr_load1 rfl Tryd.underlying117 rfl ((hH.blk 0 rfl).cell (arr32_get (by omega)))) ?_;simp only [nf]
  refine pa ?_;simp only [nf]
  refine plan_nil hH ?_
  clear hH
  intro w47 hH
  refine hK46 _ _ ?_
  (try clear hK46 K46)
  refine wp_seq_k ?_
  intro K48 hK48
  refine wp_seq_k ?_
  intro K49 hK49
  refine wrt [.q 0, .p 1] ?_
  refine pq rfl rfl (qr_loadW rfl (hH.blk 2 rfl) Tryd.underlying158 rfl sz158 (by simp)) ?_;simp only [nf]
  refine pk 0 ?_;simp only [nf]
  refine plan_nil hH ?_
  clear hH
  intro w50 hH
  refine hK49 _ _ ?_
  (try clear hK49 K49)
  refine wp_block ?_
  obtain ⟨kc51, hkc52, hN⟩ := hH.name 1 rfl
  replace hH := hN; clear hN; simp only [List.set_cons_zero, List.set_cons_succ] at hH
  refine wp_loopT [9, 10, 11, 12, 13, 14, 15, 16, 120] [17, 18, 19, 20, 121, 122, 123, 124, 125, 126, 127, 128, 129, 130, 131, 132, 133, 134, 135, 136, 137, 138, 139, 140, 141, 142, 143, 144, 145, 146, 147, 148, 149, 150, 151, 152, 153, 154, 155, 156, 157, 158, 159, 160, 161, 162, 163, 164, 165, 166, 167, 168, 169, 170, 171, 172, 173, 174, 175, 176, 177, 178] (fun (n53 : Nat) (vs : List Value) (w' : World) => ∃ (n : Nat), vs = [V32 (shaR r (shaW (fun i => l.getD i 0)) n 0), V32 (shaR r (shaW (fun i => l.getD i 0)) n 1), V32 (shaR r (shaW (fun i => l.getD i 0)) n 2), V32 (shaR r (shaW (fun i => l.getD i 0)) n 3), V32 (shaR r (shaW (fun i => l.getD i 0)) n 4), V32 (shaR r (shaW (fun i => l.getD i 0)) n 5), V32 (shaR r (shaW (fun i => l.getD i 0)) n 6), V32 (shaR r (shaW (fun i => l.getD i 0)) n 7), I64 (n : Nat)] ∧ Hp [] w w' [(some b2, 118, arr32 8 r), (some b4, 118, kc51), (some b8, 158, arr32 64 (shaW (fun i => l.getD i 0)))] ∧ n53 = 64 - n ∧ n ≤ 64) (64 - 0) (by kernel_rfl) ?_ ?_
  ·
   simp only [ga]
   refine ⟨0, rfl, ?_, rfl, ?_⟩
   ·
    exact hH
   · first | omega | (omega)
  clear hH
  intro n53 vs54 w55 hR56 d1
  obtain ⟨n, rfl, hH, hn57, hf58⟩ := hR56
  simp only [putAll, putD, List.set_cons_zero, List.set_cons_succ, Nat.zero_add, Nat.reduceAdd]
  subst hkc52
  refine wp_seq_k ?_
  intro K59 hK59
  refine wrt [.p 0] ?_
  refine pp rfl rfl (pr_bin rfl rfl (by first | exact bin_lss_n (n := 64)  | exact bin_lss_i)) ?_;simp only [nf]
  refine plan_nil hH ?_
  clear hH
  intro w60 hH
  refine hK59 _ _ ?_
  (try clear hK59 K59)
  refine wp_seq_k ?_
  intro K61 hK61
  refine wp_cond_split rfl (fun hc62 => ?_) (fun hc62 => ?_)
  ·
   (try simp only [cnd] at hc62)
   refine wp_skip ?_
   refine hK61 _ _ ?_
   (try clear hK61 K61)
   refine wp_seq_k ?_
   intro K63 hK63
   refine wp_block ?_
   refine wp_seq_k ?_
   intro K64 hK64
   refine wrt [.p 0, .p 1, .p 2, .p 3] ?_
   refine pm ?_;simp only [nf]
   refine pp rfl rfl (pr_index_arr rfl rfl Tryd.underlying158 sz117 (notAgg Tryd.underlying117 rfl) (by first | omega | exact lt_u8 _) (arr32_get (by first | omega | exact lt_u8 _))) ?_;simp only [nf]
   refine pa (pa ?_);simp only [nf]
   refine plan_nil hH ?_
   clear hH
   intro w65 hH
   refine hK64 _ _ ?_
   (try clear hK64 K64)
   refine wp_seq_k ?_
   intro K66 hK66
   refine wrp [.p 0, .p 1, .p 3, .p 6, .p 10, .p 11, .p 12, .p 13, .p 14, .p 15, .p 16, .p 18, .p 19, .p 22, .q 2, .q 4, .p 5, .q 7, .p 8, .p 9, .p 17, .q 20, .p 21, .p 23, .p 24] ?_
   refine pm (pm (pm (pm (pm (pm ?_)))));simp only [nf]
   refine pm (pm ?_);simp only [nf]
   refine pp rfl rfl (pr_bin rfl rfl (bin_xor_u32 _ _)) ?_;simp only [nf]
   refine pp rfl rfl (pr_bin rfl rfl (bin_and_u32 _ _)) ?_;simp only [nf]
   refine pp rfl rfl (pr_bin rfl rfl (bin_xor_u32 _ _)) ?_;simp only [nf]
   refine pm ?_;simp only [nf]
   refine pp rfl rfl (pr_idxA1 rfl rfl Tryd.underlying158 sz117 (by omega)) ?_;simp only [nf]
   refine pm ?_;simp only [nf]
   refine pq rfl rfl (qr_call cf87 (fun w' hw => rot_calls _ _ w') rfl) ?_;simp only [nf]
   refine pq rfl rfl (qr_call cf87 (fun w' hw => rot_calls _ _ w') rfl) ?_;simp only [nf]
   refine pp rfl rfl (pr_bin rfl rfl (bin_xor_u32 _ _)) ?_;simp only [nf]
   refine pq rfl rfl (qr_call cf87 (fun w' hw => rot_calls _ _ w') rfl) ?_;simp only [nf]
   refine pp rfl rfl (pr_bin rfl rfl (bin_xor_u32 _ _)) ?_;simp only [nf]
   refine pp rfl rfl (pr_bin rfl rfl (bin_add_u32 _ _)) ?_;simp only [nf]
   refine pp rfl rfl (pr_bin rfl rfl (bin_add_u32 _ _)) ?_;simp only [nf]
   refine pq rfl rfl (qr_cel1 (hT.grow hH.chg).2 rfl Tryd.underlying117 rfl (by omega)) ?_;simp only [nf]
   refine pp rfl rfl (pr_bin rfl rfl (bin_add_u32 _ _)) ?_;simp only [nf]
   refine pp rfl rfl (pr_bin rfl rfl (bin_add_u32 _ _)) ?_;simp only [nf]
   refine pa ?_;simp only [nf]
   refine plan_nil hH ?_
   clear hH
   intro w67 hH
   refine hK66 _ _ ?_
   (try clear hK66 K66)
   refine wp_seq_k ?_
   intro K68 hK68
   refine wrt [.p 0, .q 1, .p 2, .q 3, .p 4, .p 5, .q 6, .p 7, .p 8, .p 9, .p 10, .p 11, .p 12, .p 13, .p 14, .p 15, .p 16, .p 17, .p 18] ?_
   refine pm ?_;simp only [nf]
   refine pq rfl rfl (qr_call cf87 (fun w' hw => rot_calls _ _ w') rfl) ?_;simp only [nf]
   refine pm ?_;simp only [nf]
   refine pq rfl rfl (qr_call cf87 (fun w' hw => rot_calls _ _ w') rfl) ?_;simp only [nf]
   refine pp rfl rfl (pr_bin rfl rfl (bin_xor_u32 _ _)) ?_;simp only [nf]
   refine pm ?_;simp only [nf]
   refine pq rfl rfl (qr_call cf87 (fun w' hw => rot_calls _ _ w') rfl) ?_;simp only [nf]
   refine pp rfl rfl (pr_bin rfl rfl (bin_xor_u32 _ _)) ?_;simp only [nf]
   refine pm (pm ?_);simp only [nf]
   refine pp rfl rfl (pr_bin rfl rfl (bin_and_u32 _ _)) ?_;simp only [nf]
   refine pm (pm (pm ?_));simp only [nf]
   refine pp rfl rfl (pr_bin rfl rfl (bin_or_u32 _ _)) ?_;simp only [nf]
   refine pp rfl rfl (pr_bin rfl rfl (bin_and_u32 _ _)) ?_;simp only [nf]
   refine pp rfl rfl (pr_bin rfl rfl (bin_or_u32 _ _)) ?_;simp only [nf]
   refine pp rfl rfl (pr_bin rfl rfl (bin_add_u32 _ _)) ?_;simp only [nf]
   refine pa ?_;simp only [nf]
   refine plan_nil hH ?_
   clear hH
   intro w69 hH
   refine hK68 _ _ ?_
   (try clear hK68 K68)
   refine wrt [.p 0, .p 1, .p 2, .p 3, .p 4, .p 5, .p 6, .p 7, .p 8, .p 9, .p 10, .p 11, .p 12, .p 13, .p 14, .p 15, .p 16, .p 17, .p 18, .p 19] ?_
   refine pm (pm ?_);simp only [nf]
   refine pp rfl rfl (pr_bin rfl rfl (bin_add_u32 _ _)) ?_;simp only [nf]
   refine pm (pm (pm (pm (pm ?_))));simp only [nf]
   refine pp rfl rfl (pr_bin rfl rfl (bin_add_u32 _ _)) ?_;simp only [nf]
   refine pm (pm (pm (pa (pa (pa ?_)))));simp only [nf]
   refine pa (pa (pa (pa (pa ?_))));simp only [nf]
   refine plan_nil hH ?_
   clear hH
   intro w70 hH
   refine hK63 _ _ ?_
   (try clear hK63 K63)
   refine wrt [.p 0, .p 1] ?_
   refine pp rfl rfl (pr_bin rfl rfl (by first | exact bin_add_n (n := 1) (by omega) | exact bin_add_i (by omega) (by omega))) ?_;simp only [nf]
   refine pm ?_;simp only [nf]
   refine plan_nil hH ?_
   clear hH
   intro w71 hH
   (try simp only [Exit.then, Exit.inBlock, ↓reduceIte, Nat.reduceEqDiff])
   refine ⟨64 - (n + 1), ?_, _, rfl, by kernel_rfl, ?_⟩
   · first | omega | (omega)
   simp only [ga]
   refine ⟨n + 1, rfl, ?_, rfl, ?_⟩
   ·
    exact hH
   · first | omega | (omega)
  ·
   (try simp only [cnd] at hc62)
   obtain rfl : n = 64 := by omega
   refine wp_exit ?_
   (try simp only [Exit.then, Exit.inBlock, ↓reduceIte, Nat.reduceEqDiff])
   refine hK48 _ _ ?_
   (try clear hK48 K48)
   refine wp_seq_k ?_
   intro K72 hK72
   refine wp_seq_k ?_
   intro K73 hK73
   refine wrt [.p 0, .p 1, .p 2, .p 3, .p 4, .p 5, .p 6, .p 7, .p 8, .p 9] ?_
   refine pm (pm (pm (pm (pm (pm ?_)))));simp only [nf]
   refine pm (pm ?_);simp only [nf]
   refine pp rfl rfl (pr_build (by rfl) (ba118 _ _ _ _ _ _ _ _)) ?_;simp only [nf]
   refine pk 0 ?_;simp only [nf]
   refine plan_nil hH ?_
   clear hH
   intro w74 hH
   refine hK73 _ _ ?_
   (try clear hK73 K73)
   refine wp_block ?_
   obtain ⟨kc75, hkc76, hN⟩ := hH.name 1 rfl
   replace hH := hN; clear hN; simp only [List.set_cons_zero, List.set_cons_succ] at hH
   refine wp_loopT [188] [21, 22, 189, 190, 191, 192, 193, 194, 195, 196, 197, 198] (fun (n77 : Nat) (vs : List Value) (w' : World) => ∃ (q : Nat), vs = [I64 (q : Nat)] ∧ Hp [] w w' [(some b2, 118, arr32 8 fun j => if j < q then shaB r (fun i => l.getD i 0) j else r j), (some b4, 118, kc75), (some b8, 158, arr32 64 (shaW (fun i => l.getD i 0)))] ∧ n77 = 8 - q ∧ q ≤ 8) (8 - 0) (by kernel_rfl) ?_ ?_
   ·
    simp only [ga]
    refine ⟨0, rfl, ?_, rfl, ?_⟩
    ·
     exact hH.say 0 rfl (arr32_congr fun j hj => by rw [if_neg (by omega)])
    · first | omega | (omega)
   clear hH
   intro n77 vs78 w79 hR80 d2
   obtain ⟨q, rfl, hH, hn81, hf82⟩ := hR80
   simp only [putAll, putD, List.set_cons_zero, List.set_cons_succ, Nat.zero_add, Nat.reduceAdd]
   subst hkc76
   refine wp_seq_k ?_
   intro K83 hK83
   refine wrt [.p 0] ?_
   refine pp rfl rfl (pr_bin rfl rfl (by first | exact bin_lss_n (n := 8)  | exact bin_lss_i)) ?_;simp only [nf]
   refine plan_nil hH ?_
   clear hH
   intro w84 hH
   refine hK83 _ _ ?_
   (try clear hK83 K83)
   refine wp_seq_k ?_
   intro K85 hK85
   refine wp_cond_split rfl (fun hc86 => ?_) (fun hc86 => ?_)
   ·
    (try simp only [cnd] at hc86)
    refine wp_skip ?_
    refine hK85 _ _ ?_
    (try clear hK85 K85)
    refine wp_seq_k ?_
    intro K87 hK87
    refine wp_block ?_
    refine wp_seq_k ?_
    intro K88 hK88
    refine wrt [.p 0, .p 1, .p 2, .p 3] ?_
    refine pm ?_;simp only [nf]
    refine pp rfl rfl (pr_index_arr rfl rfl Tryd.underlying118 sz117 (notAgg Tryd.underlying117 rfl) (by first | omega | exact lt_u8 _) (arr32_get (by first | omega | exact lt_u8 _))) ?_;simp only [nf]
    refine pa (pa ?_);simp only [nf]
    refine plan_nil hH ?_
    clear hH
    intro w89 hH
    refine hK88 _ _ ?_
    (try clear hK88 K88)
    refine wrt [.p 0, .p 1, .q 2, .p 3, .p 4, .p 5, .e 6] ?_
    refine pm ?_;simp only [nf]
    refine pp rfl rfl (pr_idxA1 rfl rfl Tryd.underlying118 sz117 (by omega)) ?_;simp only [nf]
    refine pq rfl rfl (qr_load1 rfl Tryd.underlying117 rfl ((hH.blk 0 rfl).cell (arr32_get (by omega)))) ?_;simp only [nf]
    refine pm ?_;simp only [nf]
    refine pp rfl rfl (pr_bin rfl rfl (bin_add_u32 _ _)) ?_;simp only [nf]
    refine pp rfl rfl (pr_idxA1 rfl rfl Tryd.underlying118 sz117 (by omega)) ?_;simp only [nf]
    refine plan_store1 0 rfl rfl hH rfl rfl rfl rfl sz117 (by simp <;> omega) ?_
    clear hH
    intro w90 hH
    (try simp only [nf, nh, Value.cells, arrB_set] at hH ⊢)
    refine plan_nil hH ?_
    clear hH
    intro w91 hH
    refine hK87 _ _ ?_
    (try clear hK87 K87)
    refine wrt [.p 0, .p 1] ?_
    refine pp rfl rfl (pr_bin rfl rfl (by first | exact bin_add_n (n := 1) (by omega) | exact bin_add_i (by omega) (by omega))) ?_;simp only [nf]
    refine pm ?_;simp only [nf]
    refine plan_nil hH ?_
    clear hH
    intro w92 hH
    (try simp only [Exit.then, Exit.inBlock, ↓reduceIte, Nat.reduceEqDiff])
    refine ⟨8 - (q + 1), ?_, _, rfl, by kernel_rfl, ?_⟩
    · first | omega | (omega)
    simp only [ga]
    refine ⟨q + 1, rfl, ?_, rfl, ?_⟩
    ·
     exact hH.say 0 rfl (arr32_congr fun j hj => upd_lt (g := shaB r (fun i => l.getD i 0)) (z := r) (by rw [if_neg (Nat.lt_irrefl _), list8 (shaR r (shaW (fun i => l.getD i 0)) 64) q (by assumption)]; rfl) j)
    · first | omega | (omega)
   ·
    (try simp only [cnd] at hc86)
    refine wp_exit ?_
    (try simp only [Exit.then, Exit.inBlock, ↓reduceIte, Nat.reduceEqDiff])
    refine hK72 _ _ ?_
    (try clear hK72 K72)
    refine wp_seq_k ?_
    intro K93 hK93
    refine wrt [.q 0, .e 1] ?_
    refine pq rfl rfl (qr_loadW rfl (hH.blk 0 rfl) Tryd.underlying118 rfl sz118 (by simp)) ?_;simp only [nf]
    refine plan_storeW 1 rfl rfl hH rfl rfl rfl one_arr32 sz118 (by simp) (by simp) ?_
    clear hH
    intro w94 hH
    (try simp only [nf, nh, Value.cells, arrB_set] at hH ⊢)
    refine plan_nil hH ?_
    clear hH
    intro w95 hH
    refine hK93 _ _ ?_
    (try clear hK93 K93)
    refine wp_ret ?_
    (try simp only [Exit.then, Exit.inBlock, ↓reduceIte, Nat.reduceEqDiff])
    refine BP.retc rfl rfl (hH.blk 1 rfl) Tryd.underlying118 rfl sz118 (by simp) ?_
    obtain rfl : q = 8 := by omega
    exact ⟨by rw [arr32_congr fun i hi => if_pos hi], hH.chg⟩
end Go.Proofs.YtdkjdioccpoacaaDoor
set_option linter.unusedSimpArgs false
set_option linter.unusedVariables false
set_option maxRecDepth 100000
set_option maxHeartbeats 4000000
namespace Go.Proofs.YtdkjdioccpoacaaDoor
open Go
open List (getD_cons_zero getD_cons_succ set_cons_zero set_cons_succ)
def dbl (x : UInt8) : UInt8 := x <<< 1 ^^^ x >>> 7 * 27
def sboxL : List UInt8 := [99, 124, 119, 123, 242, 107, 111, 197, 48, 1, 103, 43, 254, 215, 171, 118, 202, 130, 201, 125, 250, 89, 71, 240, 173, 212, 162, 175, 156, 164, 114, 192, 183, 253, 147, 38, 54, 63, 247, 204, 52, 165, 229, 241, 113, 216, 49, 21, 4, 199, 35, 195, 24, 150, 5, 154, 7, 18, 128, 226, 235, 39, 178, 117, 9, 131, 44, 26, 27, 110, 90, 160, 82, 59, 214, 179, 41, 227, 47, 132, 83, 209, 0, 237, 32, 252, 177, 91, 106, 203, 190, 57, 74, 76, 88, 207, 208, 239, 170, 251, 67, 77, 51, 133, 69, 249, 2, 127, 80, 60, 159, 168, 81, 163, 64, 143, 146, 157, 56, 245, 188, 182, 218, 33, 16, 255, 243, 210, 205, 12, 19, 236, 95, 151, 68, 23, 196, 167, 126, 61, 100, 93, 25, 115, 96, 129, 79, 220, 34, 42, 144, 136, 70, 238, 184, 20, 222, 94, 11, 219, 224, 50, 58, 10, 73, 6, 36, 92, 194, 211, 172, 98, 145, 149, 228, 121, 231, 200, 55, 109, 141, 213, 78, 169, 108, 86, 244, 234, 101, 122, 174, 8, 186, 120, 37, 46, 28, 166, 180, 198, 232, 221, 116, 31, 75, 189, 139, 138, 112, 62, 181, 102, 72, 3, 246, 14, 97, 53, 87, 185, 134, 193, 29, 158, 225, 248, 152, 17, 105, 217, 142, 148, 155, 30, 135, 233, 206, 85, 40, 223, 140, 161, 137, 13, 191, 230, 66, 104, 65, 153, 45, 15, 176, 84, 187, 22]
def sbox (n : Nat) : UInt8 := sboxL.getD n 0
def colf (f : Nat → UInt8) (o : Nat) : Nat → UInt8 := fun i =>
  if i = o then f o ^^^ (f o ^^^ f (o + 1) ^^^ f (o + 2) ^^^ f (o + 3) ^^^ dbl (f o ^^^ f (o + 1)))
  else if i = o + 1 then f (o + 1) ^^^ (f o ^^^ f (o + 1) ^^^ f (o + 2) ^^^ f (o + 3) ^^^ dbl (f (o + 1) ^^^ f (o + 2)))
  else if i = o + 2 then f (o + 2) ^^^ (f o ^^^ f (o + 1) ^^^ f (o + 2) ^^^ f (o + 3) ^^^ dbl (f (o + 2) ^^^ f (o + 3)))
  else if i = o + 3 then f (o + 3) ^^^ (f o ^^^ f (o + 1) ^^^ f (o + 2) ^^^ f (o + 3) ^^^ dbl (f (o + 3) ^^^ f o))
  else f i
theorem Hp.start1 {w : World} {b : Nat} {t : TypeId} {cs : Array Value} (h : Blk w b t cs) : Hp [b] w w [(some b, t, cs)] :=
  (Hp.start [b] w).add (some b, t, cs) (fun b' hb' => by cases hb'; exact ⟨.inr (by simp), h⟩) (by simp)
theorem col_step (f : Nat → UInt8) (o k i : Nat) (hk : k < 3) :
    upd (fun i => if i < o + k then colf f o i else f i) (o + k)
      ((if o + k < o + k then colf f o (o + k) else f (o + k)) ^^^
        (f o ^^^ f (o + 1) ^^^ f (o + 2) ^^^ f (o + 3) ^^^
          dbl ((if o + k < o + k then colf f o (o + k) else f (o + k)) ^^^ if o + (k + 1) < o + k then colf f o (o + (k + 1)) else f (o + (k + 1))))) i = if i < o + (k + 1) then colf f o i else f i := by
  rw [if_neg (Nat.lt_irrefl _), if_neg (by omega)]
  simp only [upd]
  by_cases h : i = o + k
  · subst h
    rw [if_pos rfl, if_pos (by omega)]
    obtain rfl | rfl | rfl : k = 0 ∨ k = 1 ∨ k = 2 := by omega
    · simp [colf]
    · simp [colf]
    · simp [colf]
  · rw [if_neg h]
    by_cases h1 : i < o + k
    · rw [if_pos h1, if_pos (by omega)]
    · rw [if_neg h1, if_neg (by omega)]
theorem col_last (f : Nat → UInt8) (o k i : Nat) (hk : 3 ≤ k) (hk' : k ≤ 3) :
    upd (fun i => if i < o + k then colf f o i else f i) (o + 3)
      ((if o + 3 < o + k then colf f o (o + 3) else f (o + 3)) ^^^
        (f o ^^^ f (o + 1) ^^^ f (o + 2) ^^^ f (o + 3) ^^^ dbl ((if o + 3 < o + k then colf f o (o + 3) else f (o + 3)) ^^^ f o))) i = colf f o i := by
  obtain rfl : k = 3 := by omega
  rw [if_neg (Nat.lt_irrefl _)]
  simp only [upd]
  by_cases h : i = o + 3
  · subst h
    simp [colf]
  · rw [if_neg h]
    by_cases h1 : i < o + 3
    · rw [if_pos h1]
    · rw [if_neg h1]
      unfold colf
      rw [if_neg (by omega), if_neg (by omega), if_neg (by omega), if_neg (by omega)]
theorem double_calls (x : UInt8) (w : World) : Ret Tryd.prog 89 #[V8 x] w fun v w' => v = V8 (dbl x) ∧ Chg [] w w' := by
 refine Ret.enter Tryd.func89 rfl ?_
 simp only [Tryd.ntmps89, fe, Nat.reduceAdd, Nat.reduceSub]
 have hH := Hp.start [] w
 refine wp_seq_k ?_
 intro K1 hK1
 refine wrt [.p 0] ?_
 refine pa ?_;simp only [nf]
 refine plan_nil hH ?_
 clear hH
 intro w2 hH
 refine hK1 _ _ ?_
 (try clear hK1 K1)
 refine wp_seq_k ?_
 intro K3 hK3
 refine wrt [.p 0, .p 1, .p 2, .p 3, .p 4, .p 5, .p 6] ?_
 refine pm ?_;simp only [nf]
 refine pp rfl rfl (pr_bin rfl rfl (bin_shlc_u8 1 1 (by decide) rfl _)) ?_;simp only [nf]
 refine pm ?_;simp only [nf]
 refine pp rfl rfl (pr_bin rfl rfl (bin_shrc_u8 7 7 (by decide) rfl _)) ?_;simp only [nf]
 refine pp rfl rfl (pr_bin rfl rfl (bin_mul_u8 _ 27)) ?_;simp only [nf]
 refine pp rfl rfl (pr_bin rfl rfl (bin_xor_u8 _ _)) ?_;simp only [nf]
 refine pa ?_;simp only [nf]
 refine plan_nil hH ?_
 clear hH
 intro w4 hH
 refine hK3 _ _ ?_
 (try clear hK3 K3)
 refine wp_ret ?_
 (try simp only [Exit.then, Exit.inBlock, ↓reduceIte, Nat.reduceEqDiff])
 refine BP.ret1 rfl rfl ?_
 exact ⟨rfl, hH.chg⟩
theorem sub_calls (w : World) : Ret Tryd.prog 88 #[] w fun v w' => v = .agg (arr8 256 sbox) ∧ Chg [] w w' := by
 refine Ret.enter Tryd.func88 rfl ?_
 simp only [Tryd.ntmps88, fe, Nat.reduceAdd, Nat.reduceSub]
 have hH := Hp.start [] w
 refine wp_seq_k ?_
 intro K1 hK1
 refine wrt [.x 0] ?_
 refine plan_alloc rfl rfl hH zc165 ?_
 clear hH
 intro b2 w3 hH
 (try simp only [nf, nh, Value.cells] at hH ⊢)
 refine plan_nil hH ?_
 clear hH
 intro w4 hH
 refine hK1 _ _ ?_
 (try clear hK1 K1)
 refine wp_seq_k ?_
 intro K5 hK5
 refine wrt [.p 0, .e 1] ?_
 refine plan_p (v := .agg (arr8 256 sbox)) rfl rfl (fun w => by kernel_rfl) ?_
 (try simp only [nf])
 refine plan_storeW 0 rfl rfl hH rfl rfl rfl one_arr8 sz165 (by simp) (by simp) ?_
 clear hH
 intro w6 hH
 (try simp only [nf, nh, Value.cells] at hH ⊢)
 refine plan_nil hH ?_
 clear hH
 intro w7 hH
 refine hK5 _ _ ?_
 (try clear hK5 K5)
 refine wp_ret ?_
 (try simp only [Exit.then, Exit.inBlock, ↓reduceIte, Nat.reduceEqDiff])
 refine BP.retc rfl rfl (hH.blk 0 rfl) Tryd.underlying165 rfl sz165 (by simp) ?_
 exact ⟨rfl, hH.chg⟩
theorem mix_calls (f g : Nat → UInt8) (w : World) : Ret Tryd.prog 100 #[.agg (arr8 16 f), .agg (arr8 16 g)] w fun v w' => v = .agg (arr8 16 fun i => f i ^^^ g i) ∧ Chg [] w w' := by
 refine Ret.enter Tryd.func100 rfl ?_
 simp only [Tryd.ntmps100, fe, Nat.reduceAdd, Nat.reduceSub]
 have hH := Hp.start [] w
 refine wp_seq_k ?_
 intro K1 hK1
 refine wrt [.x 0, .x 1, .x 2] ?_
 refine plan_box rfl rfl hH rfl ?_
 clear hH
 intro b2 w3 hH
 (try simp only [nf, nh, Value.cells] at hH ⊢)
 refine plan_box rfl rfl hH rfl ?_
 clear hH
 intro b4 w5 hH
 (try simp only [nf, nh, Value.cells] at hH ⊢)
 refine plan_alloc rfl rfl hH zc130 ?_
 clear hH
 intro b6 w7 hH
 (try simp only [nf, nh, Value.cells] at hH ⊢)
 refine plan_nil hH ?_
 clear hH
 intro w8 hH
 refine hK1 _ _ ?_
 (try clear hK1 K1)
 refine wp_seq_k ?_
 intro K9 hK9
 refine wp_seq_k ?_
 intro K10 hK10
 refine wrt [.p 0] ?_
 refine pk 0 ?_;simp only [nf]
 refine plan_nil hH ?_
 clear hH
 intro w11 hH
 refine hK10 _ _ ?_
 (try clear hK10 K10)
 refine wp_block ?_
 refine wp_loopT [6] [5, 7, 8, 9, 10, 11, 12, 13, 14, 15, 16, 17] (fun (n12 : Nat) (vs : List Value) (w' : World) => ∃ (k : Nat), vs = [I64 (k : Nat)] ∧ Hp [] w w' [(some b2, 130, arr8 16 fun i => if i < k then f i ^^^ g i else f i), (some b4, 130, arr8 16 g), (some b6, 130, arr8 16 fun _ => 0)] ∧ n12 = 16 - k ∧ k ≤ 16) (16 - 0) (by kernel_rfl) ?_ ?_
 ·
  simp only [ga]
  refine ⟨0, rfl, ?_, rfl, ?_⟩
  ·
   exact hH.say 0 rfl (arr8_congr fun i hi => by rw [if_neg (by omega)])
  · first | omega | (omega)
 clear hH
 intro n12 vs13 w14 hR15 d0
 obtain ⟨k, rfl, hH, hn16, hf17⟩ := hR15
 simp only [putAll, putD, List.set_cons_zero, List.set_cons_succ, Nat.zero_add, Nat.reduceAdd]
 refine wp_seq_k ?_
 intro K18 hK18
 refine wrt [.p 0] ?_
 refine pp rfl rfl (pr_bin rfl rfl (by first | exact bin_lss_n (n := 16)  | exact bin_lss_i)) ?_;simp only [nf]
 refine plan_nil hH ?_
 clear hH
 intro w19 hH
 refine hK18 _ _ ?_
 (try clear hK18 K18)
 refine wp_seq_k ?_
 intro K20 hK20
 refine wp_cond_split rfl (fun hc21 => ?_) (fun hc21 => ?_)
 ·
  (try simp only [cnd] at hc21)
  refine wp_skip ?_
  refine hK20 _ _ ?_
  (try clear hK20 K20)
  refine wp_seq_k ?_
  intro K22 hK22
  refine wp_block ?_
  refine wp_seq_k ?_
  intro K23 hK23
  refine wrt [.p 0, .p 1] ?_
  refine pm (pa ?_);simp only [nf]
  refine plan_nil hH ?_
  clear hH
  intro w24 hH
  refine hK23 _ _ ?_
  (try clear hK23 K23)
  refine wrp [.p 0, .p 1, .p 3, .p 4, .q 2, .q 5, .p 6, .p 7, .e 8] ?_
  refine pm ?_;simp only [nf]
  refine pp rfl rfl (pr_idxA1 rfl rfl Tryd.underlying130 sz5 (by omega)) ?_;simp only [nf]
  refine pm ?_;simp only [nf]
  refine pp rfl rfl (pr_idxA1 rfl rfl Tryd.underlying130 sz5 (by omega)) ?_;simp only [nf]
  refine pq rfl rfl (qr_load1 rfl Tryd.underlying5 rfl ((hH.blk 0 rfl).cell (arr8_get (by omega)))) ?_;simp only [nf]
  refine pq rfl rfl (qr_load1 rfl Tryd.underlying5 rfl ((hH.blk 1 rfl).cell (arr8_get (by omega)))) ?_;simp only [nf]
  refine pp rfl rfl (pr_bin rfl rfl (bin_xor_u8 _ _)) ?_;simp only [nf]
  refine pp rfl rfl (pr_idxA1 rfl rfl Tryd.underlying130 sz5 (by omega)) ?_;simp only [nf]
  refine plan_store1 0 rfl rfl hH rfl rfl rfl rfl sz5 (by simp <;> omega) ?_
  clear hH
  intro w25 hH
  (try simp only [nf, nh, Value.cells] at hH ⊢)
  refine plan_nil hH ?_
  clear hH
  intro w26 hH
  refine hK22 _ _ ?_
  (try clear hK22 K22)
  refine wrt [.p 0, .p 1] ?_
  refine pp rfl rfl (pr_bin rfl rfl (by first | exact bin_add_n (n := 1) (by omega) | exact bin_add_i (by omega) (by omega))) ?_;simp only [nf]
  refine pm ?_;simp only [nf]
  refine plan_nil hH ?_
  clear hH
  intro w27 hH
  (try simp only [Exit.then, Exit.inBlock, ↓reduceIte, Nat.reduceEqDiff])
  refine ⟨16 - (k + 1), ?_, _, rfl, by kernel_rfl, ?_⟩
  · first | omega | (omega)
  simp only [ga]
  refine ⟨k + 1, rfl, ?_, rfl, ?_⟩
  ·
   exact hH.say 0 rfl (arr8_congr fun i hi => upd_lt (g := fun i => f i ^^^ g i) (z := f) (by rw [if_neg (Nat.lt_irrefl _)]) i)
  · first | omega | (omega)
 ·
  (try simp only [cnd] at hc21)
  refine wp_exit ?_
  (try simp only [Exit.then, Exit.inBlock, ↓reduceIte, Nat.reduceEqDiff])
  refine hK9 _ _ ?_
  (try clear hK9 K9)
  refine wp_seq_k ?_
  intro K28 hK28
  refine wrt [.q 0, .e 1] ?_
  refine pq rfl rfl (qr_loadW rfl (hH.blk 0 rfl) Tryd.underlying130 rfl sz130 (by simp)) ?_;simp only [nf]
  refine plan_storeW 2 rfl rfl hH rfl rfl rfl one_arr8 sz130 (by simp) (by simp) ?_
  clear hH
  intro w29 hH
  (try simp only [nf, nh, Value.cells] at hH ⊢)
  refine plan_nil hH ?_
  clear hH
  intro w30 hH
  refine hK28 _ _ ?_
  (try clear hK28 K28)
  refine wp_ret ?_
  (try simp only [Exit.then, Exit.inBlock, ↓reduceIte, Nat.reduceEqDiff])
  refine BP.retc rfl rfl (hH.blk 2 rfl) Tryd.underlying130 rfl sz130 (by simp) ?_
  exact ⟨by rw [arr8_congr fun i hi => if_pos (by omega)], hH.chg⟩
theorem column_calls (b o m T c : Nat) (f : Nat → UInt8) (ho : o + 4 ≤ m) (w : World) (hb : Blk w b T (arr8 m f)) :
    Ret Tryd.prog 101 #[.slice (some ⟨b, o, none⟩) 4 c] w fun v w' => v = .tuple #[] ∧ Chg [b] w w' ∧ Blk w' b T (arr8 m (colf f o)) := by
 refine Ret.enter Tryd.func101 rfl ?_
 simp only [Tryd.ntmps101, fe, Nat.reduceAdd, Nat.reduceSub]
 have hH := Hp.start1 hb
 refine wp_seq_k ?_
 intro K1 hK1
 refine wrp [.p 0, .p 1, .p 3, .p 4, .p 7, .p 8, .p 11, .p 12, .p 15, .p 16, .q 2, .q 5, .p 6, .q 9, .p 10, .q 13, .p 14, .p 18, .q 17, .p 19] ?_
 refine pm ?_;simp only [nf]
 refine pp rfl rfl (pr_idxS1 (i := 0) rfl rfl Tryd.underlying29 sz5 (by omega)) ?_;simp only [nf]
 refine pm ?_;simp only [nf]
 refine pp rfl rfl (pr_idxS1 (i := 1) rfl rfl Tryd.underlying29 sz5 (by omega)) ?_;simp only [nf]
 refine pm ?_;simp only [nf]
 refine pp rfl rfl (pr_idxS1 (i := 2) rfl rfl Tryd.underlying29 sz5 (by omega)) ?_;simp only [nf]
 refine pm ?_;simp only [nf]
 refine pp rfl rfl (pr_idxS1 (i := 3) rfl rfl Tryd.underlying29 sz5 (by omega)) ?_;simp only [nf]
 refine pm ?_;simp only [nf]
 refine pp rfl rfl (pr_idxS1 (i := 0) rfl rfl Tryd.underlying29 sz5 (by omega)) ?_;simp only [nf]
 refine pq rfl rfl (qr_load1 rfl Tryd.underlying5 rfl ((hH.blk 0 rfl).cell (arr8_get (by omega)))) ?_;simp only [nf]
 refine pq rfl rfl (qr_load1 rfl Tryd.underlying5 rfl ((hH.blk 0 rfl).cell (arr8_get (by omega)))) ?_;simp only [nf]
 refine pp rfl rfl (pr_bin rfl rfl (bin_xor_u8 _ _)) ?_;simp only [nf]
 refine pq rfl rfl (qr_load1 rfl Tryd.underlying5 rfl ((hH.blk 0 rfl).cell (arr8_get (by omega)))) ?_;simp only [nf]
 refine pp rfl rfl (pr_bin rfl rfl (bin_xor_u8 _ _)) ?_;simp only [nf]
 refine pq rfl rfl (qr_load1 rfl Tryd.underlying5 rfl ((hH.blk 0 rfl).cell (arr8_get (by omega)))) ?_;simp only [nf]
 refine pp rfl rfl (pr_bin rfl rfl (bin_xor_u8 _ _)) ?_;simp only [nf]
 refine pa ?_;simp only [nf]
 refine pq rfl rfl (qr_load1 rfl Tryd.underlying5 rfl ((hH.blk 0 rfl).cell (arr8_get (by omega)))) ?_;simp only [nf]
 refine pa ?_;simp only [nf]
 refine plan_nil hH ?_
 clear hH
 intro w2 hH
 refine hK1 _ _ ?_
 (try clear hK1 K1)
 refine wp_seq_k ?_
 intro K3 hK3
 refine wp_seq_k ?_
 intro K4 hK4
 refine wrt [.p 0] ?_
 refine pk 0 ?_;simp only [nf]
 refine plan_nil hH ?_
 clear hH
 intro w5 hH
 refine hK4 _ _ ?_
 (try clear hK4 K4)
 refine wp_block ?_
 refine wp_loopT [23] [4, 24, 25, 26, 27, 28, 29, 30, 31, 32, 33, 34, 35, 36, 37, 38, 39, 40, 41, 42, 43, 44, 45] (fun (n6 : Nat) (vs : List Value) (w' : World) => ∃ (k : Nat), vs = [I64 (k : Nat)] ∧ Hp [b] w w' [(some b, T, arr8 m fun i => if i < o + k then colf f o i else f i)] ∧ n6 = 3 - k ∧ k ≤ 3) (3 - 0) (by kernel_rfl) ?_ ?_
 ·
  simp only [ga]
  refine ⟨0, rfl, ?_, rfl, ?_⟩
  ·
   exact hH.say 0 rfl (arr8_congr fun i hi => by split <;> first | rfl | (unfold colf; rw [if_neg (by omega), if_neg (by omega), if_neg (by omega), if_neg (by omega)]))
  · first | omega | (omega)
 clear hH
 intro n6 vs7 w8 hR9 d0
 obtain ⟨k, rfl, hH, hn10, hf11⟩ := hR9
 simp only [putAll, putD, List.set_cons_zero, List.set_cons_succ, Nat.zero_add, Nat.reduceAdd]
 refine wp_seq_k ?_
 intro K12 hK12
 refine wrt [.p 0] ?_
 refine pp rfl rfl (pr_bin rfl rfl (by first | exact bin_lss_n (n := 3)  | exact bin_lss_i)) ?_;simp only [nf]
 refine plan_nil hH ?_
 clear hH
 intro w13 hH
 refine hK12 _ _ ?_
 (try clear hK12 K12)
 refine wp_seq_k ?_
 intro K14 hK14
 refine wp_cond_split rfl (fun hc15 => ?_) (fun hc15 => ?_)
 ·
  (try simp only [cnd] at hc15)
  refine wp_skip ?_
  refine hK14 _ _ ?_
  (try clear hK14 K14)
  refine wp_seq_k ?_
  intro K16 hK16
  refine wp_block ?_
  refine wp_seq_k ?_
  intro K17 hK17
  refine wrt [.p 0, .p 1] ?_
  refine pm (pa ?_);simp only [nf]
  refine plan_nil hH ?_
  clear hH
  intro w18 hH
  refine hK17 _ _ ?_
  (try clear hK17 K17)
  refine wrp [.p 0, .p 1, .p 2, .p 4, .p 5, .p 6, .p 7, .p 9, .p 10, .p 11, .p 12, .q 3, .q 8, .q 13, .p 14, .q 15, .p 16, .p 17, .p 18, .e 19] ?_
  refine pm (pm ?_);simp only [nf]
  refine pp rfl rfl (pr_idxS1 rfl rfl Tryd.underlying29 sz5 (by omega)) ?_;simp only [nf]
  refine pm (pm (pm ?_));simp only [nf]
  refine pp rfl rfl (pr_idxS1 rfl rfl Tryd.underlying29 sz5 (by omega)) ?_;simp only [nf]
  refine pm (pm ?_);simp only [nf]
  refine pp rfl rfl (pr_bin rfl rfl (by first | exact bin_add_n (n := 1) (by omega) | exact bin_add_i (by omega) (by omega))) ?_;simp only [nf]
  refine pp rfl rfl (pr_idxS1 rfl rfl Tryd.underlying29 sz5 (by omega)) ?_;simp only [nf]
  refine pq rfl rfl (qr_load1 rfl Tryd.underlying5 rfl ((hH.blk 0 rfl).cell (arr8_get (by omega)))) ?_;simp only [nf]
  refine pq rfl rfl (qr_load1 rfl Tryd.underlying5 rfl ((hH.blk 0 rfl).cell (arr8_get (by omega)))) ?_;simp only [nf]
  refine pq rfl rfl (qr_load1 rfl Tryd.underlying5 rfl ((hH.blk 0 rfl).cell (arr8_get (by omega)))) ?_;simp only [nf]
  refine pp rfl rfl (pr_bin rfl rfl (bin_xor_u8 _ _)) ?_;simp only [nf]
  refine pq rfl rfl (qr_call cf89 (fun w' hw => double_calls _ w') rfl) ?_;simp only [nf]
  refine pp rfl rfl (pr_bin rfl rfl (bin_xor_u8 _ _)) ?_;simp only [nf]
  refine pp rfl rfl (pr_bin rfl rfl (bin_xor_u8 _ _)) ?_;simp only [nf]
  refine pp rfl rfl (pr_idxS1 rfl rfl Tryd.underlying29 sz5 (by omega)) ?_;simp only [nf]
  refine plan_store1 0 rfl rfl hH rfl rfl rfl rfl sz5 (by simp <;> omega) ?_
  clear hH
  intro w19 hH
  (try simp only [nf, nh, Value.cells] at hH ⊢)
  refine plan_nil hH ?_
  clear hH
  intro w20 hH
  refine hK16 _ _ ?_
  (try clear hK16 K16)
  refine wrt [.p 0, .p 1] ?_
  refine pp rfl rfl (pr_bin rfl rfl (by first | exact bin_add_n (n := 1) (by omega) | exact bin_add_i (by omega) (by omega))) ?_;simp only [nf]
  refine pm ?_;simp only [nf]
  refine plan_nil hH ?_
  clear hH
  intro w21 hH
  (try simp only [Exit.then, Exit.inBlock, ↓reduceIte, Nat.reduceEqDiff])
  refine ⟨3 - (k + 1), ?_, _, rfl, by kernel_rfl, ?_⟩
  · first | omega | (omega)
  simp only [ga]
  refine ⟨k + 1, rfl, ?_, rfl, ?_⟩
  ·
   exact hH.say 0 rfl (arr8_congr fun i hi => col_step f o k i (by omega))
  · first | omega | (omega)
 ·
  (try simp only [cnd] at hc15)
  refine wp_exit ?_
  (try simp only [Exit.then, Exit.inBlock, ↓reduceIte, Nat.reduceEqDiff])
  refine hK3 _ _ ?_
  (try clear hK3 K3)
  refine wrp [.p 0, .p 1, .p 3, .p 4, .p 5, .p 7, .q 2, .q 6, .p 8, .q 9, .p 10, .p 11, .p 12, .e 13] ?_
  refine pm ?_;simp only [nf]
  refine pp rfl rfl (pr_idxS1 (i := 3) rfl rfl Tryd.underlying29 sz5 (by omega)) ?_;simp only [nf]
  refine pm (pm ?_);simp only [nf]
  refine pp rfl rfl (pr_idxS1 (i := 3) rfl rfl Tryd.underlying29 sz5 (by omega)) ?_;simp only [nf]
  refine pm ?_;simp only [nf]
  refine pq rfl rfl (qr_load1 rfl Tryd.underlying5 rfl ((hH.blk 0 rfl).cell (arr8_get (by omega)))) ?_;simp only [nf]
  refine pq rfl rfl (qr_load1 rfl Tryd.underlying5 rfl ((hH.blk 0 rfl).cell (arr8_get (by omega)))) ?_;simp only [nf]
  refine pp rfl rfl (pr_bin rfl rfl (bin_xor_u8 _ _)) ?_;simp only [nf]
  refine pq rfl rfl (qr_call cf89 (fun w' hw => double_calls _ w') rfl) ?_;simp only [nf]
  refine pp rfl rfl (pr_bin rfl rfl (bin_xor_u8 _ _)) ?_;simp only [nf]
  refine pp rfl rfl (pr_bin rfl rfl (bin_xor_u8 _ _)) ?_;simp only [nf]
  refine pp rfl rfl (pr_idxS1 (i := 3) rfl rfl Tryd.underlying29 sz5 (by omega)) ?_;simp only [nf]
  refine plan_store1 0 rfl rfl hH rfl rfl rfl rfl sz5 (by simp <;> omega) ?_
  clear hH
  intro w22 hH
  (try simp only [nf, nh, Value.cells] at hH ⊢)
  refine plan_nil hH ?_
  clear hH
  intro w23 hH
  refine BP.normal ?_
  refine BP.ret0 rfl rfl ?_
  exact ⟨rfl, hH.chg, (hH.say 0 rfl (arr8_congr fun i hi => col_last f o k i (by omega) (by omega))).blk 0 rfl⟩
def subs (s : Nat → UInt8) : Nat → UInt8 := fun j => sbox (s ((j + 4 * (j % 4)) % 16)).toNat
def colsN (t : Nat → UInt8) : Nat → (Nat → UInt8)
  | 0 => t
  | n + 1 => colf (colsN t n) (4 * n)
def aesR (k s : Nat → UInt8) : Nat → (Nat → UInt8)
  | 0 => fun j => s j ^^^ k j
  | n + 1 => fun j => (if n + 1 < 10 then colsN (subs (aesR k s n)) 4 else subs (aesR k s n)) j ^^^ k ((n + 1) * 16 + j)
theorem aesR_succ (k s : Nat → UInt8) (n : Nat) : aesR k s (n + 1) = fun j => (if n + 1 < 10 then colsN (subs (aesR k s n)) 4 else subs (aesR k s n)) j ^^^ k ((n + 1) * 16 + j) := rfl
theorem turn_calls (bc : Nat) (kf f : Nat → UInt8) (w : World) (hc : Blk w bc 163 (arr8 176 kf)) :
    Ret Tryd.prog 90 #[PT bc 0, .agg (arr8 16 f)] w fun v w' => v = .agg (arr8 16 (aesR kf f 10)) ∧ Chg [] w w' := by
 refine Ret.enter Tryd.func90 rfl ?_
 simp only [Tryd.ntmps90, fe, Nat.reduceAdd, Nat.reduceSub]
 have hH := Hp.start [] w
 refine wp_seq_k ?_
 intro K1 hK1
 refine wrt [.x 0, .x 1] ?_
 refine plan_box rfl rfl hH rfl ?_
 clear hH
 intro b2 w3 hH
 (try simp only [nf, nh, Value.cells] at hH ⊢)
 refine plan_alloc rfl rfl hH zc130 ?_
 clear hH
 intro b4 w5 hH
 (try simp only [nf, nh, Value.cells] at hH ⊢)
 refine plan_nil hH ?_
 clear hH
 intro w6 hH
 refine hK1 _ _ ?_
 (try clear hK1 K1)
 refine wp_seq_k ?_
 intro K7 hK7
 refine wrp [.p 1, .p 2, .p 3, .p 4, .q 0, .q 5, .q 6, .x 7, .e 8] ?_
 refine pm ?_;simp only [nf]
 refine pp rfl rfl (pr_nilCheck rfl) ?_;simp only [nf]
 refine pp rfl rfl (pr_fieldAddr 0 rfl Tryd.underlying163 rfl rfl sz161) ?_;simp only [nf]
 refine pp rfl rfl (pr_idxA (i := 0) rfl rfl Tryd.underlying161 sz130 (by omega)) ?_;simp only [nf]
 refine pq rfl rfl (qr_loadW rfl (hH.blk 0 rfl) Tryd.underlying130 rfl sz130 (by simp)) ?_;simp only [nf]
 refine pq rfl rfl (qr_load8 rfl (hH.chg.nil_blk hc) Tryd.underlying130 rfl sz130 (by omega)) ?_;simp only [nf]
 refine pq rfl rfl (qr_call cf100 (fun w' hw => mix_calls _ _ w') rfl) ?_;simp only [nf]
 refine plan_alloc rfl rfl hH zc130 ?_
 clear hH
 intro b8 w9 hH
 (try simp only [nf, nh, Value.cells] at hH ⊢)
 refine plan_storeW 2 rfl rfl hH rfl rfl rfl one_arr8 sz130 (by simp) (by simp) ?_
 clear hH
 intro w10 hH
 (try simp only [nf, nh, Value.cells] at hH ⊢)
 refine plan_nil hH ?_
 clear hH
 intro w11 hH
 refine hK7 _ _ ?_
 (try clear hK7 K7)
 refine wp_seq_k ?_
 intro K12 hK12
 refine wp_seq_k ?_
 intro K13 hK13
 refine wrt [.p 0] ?_
 refine pka 1 ?_;simp only [nf]
 refine plan_nil hH ?_
 clear hH
 intro w14 hH
 refine hK13 _ _ ?_
 (try clear hK13 K13)
 refine wp_block ?_
 refine wp_loopT [6] [7, 8, 9, 17, 18, 19, 20, 21, 22, 23, 24, 25, 26, 27, 28, 29, 30, 31, 32, 33, 34, 35, 36, 37, 38, 39, 40, 41, 42, 43, 44, 45, 46, 47, 48, 49, 50, 51, 52, 53, 54, 55] (fun (n15 : Nat) (vs : List Value) (w' : World) => ∃ (k : Nat), vs = [I64 ((k + 1 : Nat))] ∧ Hp [] w w' [(some b2, 130, arr8 16 f), (some b4, 130, arr8 16 fun _ => 0), (some b8, 130, arr8 16 (aesR kf f k))] ∧ n15 = 10 - k ∧ k ≤ 10) (10 - 0) (by kernel_rfl) ?_ ?_
 ·
  simp only [ga]
  refine ⟨0, rfl, ?_, rfl, ?_⟩
  ·
   exact hH.say 2 rfl rfl
  · first | omega | (omega)
 clear hH
 intro n15 vs16 w17 hR18 d0
 obtain ⟨k, rfl, hH, hn19, hf20⟩ := hR18
 simp only [putAll, putD, List.set_cons_zero, List.set_cons_succ, Nat.zero_add, Nat.reduceAdd]
 refine wp_seq_k ?_
 intro K21 hK21
 refine wp_seq_k ?_
 intro K22 hK22
 refine wrt [.p 0, .p 1] ?_
 refine pm ?_;simp only [nf]
 refine pp rfl rfl (pr_bin rfl rfl (by first | exact bin_leq_n (n := 10)  | exact bin_leq_i)) ?_;simp only [nf]
 refine plan_nil hH ?_
 clear hH
 intro w23 hH
 refine hK22 _ _ ?_
 (try clear hK22 K22)
 refine wp_cond_split rfl (fun hc24 => ?_) (fun hc24 => ?_)
 ·
  (try simp only [cnd] at hc24)
  refine wp_skip ?_
  refine hK21 _ _ ?_
  (try clear hK21 K21)
  refine wp_seq_k ?_
  intro K25 hK25
  refine wp_block ?_
  refine wp_seq_k ?_
  intro K26 hK26
  refine wrt [.x 0] ?_
  refine plan_alloc rfl rfl hH zc130 ?_
  clear hH
  intro b27 w28 hH
  (try simp only [nf, nh, Value.cells] at hH ⊢)
  refine plan_nil hH ?_
  clear hH
  intro w29 hH
  refine hK26 _ _ ?_
  (try clear hK26 K26)
  refine wp_seq_k ?_
  intro K30 hK30
  refine wp_seq_k ?_
  intro K31 hK31
  refine wrt [.p 0] ?_
  refine pk 0 ?_;simp only [nf]
  refine plan_nil hH ?_
  clear hH
  intro w32 hH
  refine hK31 _ _ ?_
  (try clear hK31 K31)
  refine wp_block ?_
  refine wp_loopT [21] [8, 22, 23, 24, 25, 26, 27, 28, 29, 30, 31, 32, 33, 34, 35, 36] (fun (n33 : Nat) (vs : List Value) (w' : World) => ∃ (j : Nat), vs = [I64 (j : Nat)] ∧ Hp [] w w' [(some b2, 130, arr8 16 f), (some b4, 130, arr8 16 fun _ => 0), (some b8, 130, arr8 16 (aesR kf f k)), (some b27, 130, arr8 16 fun i => if i < j then subs (aesR kf f k) i else 0)] ∧ n33 = 16 - j ∧ j ≤ 16) (16 - 0) (by kernel_rfl) ?_ ?_
  ·
   simp only [ga]
   refine ⟨0, rfl, ?_, rfl, ?_⟩
   ·
    exact hH.say 3 rfl (arr8_congr fun i hi => by rw [if_neg (by omega)])
   · first | omega | (omega)
  clear hH
  intro n33 vs34 w35 hR36 d1
  obtain ⟨j, rfl, hH, hn37, hf38⟩ := hR36
  simp only [putAll, putD, List.set_cons_zero, List.set_cons_succ, Nat.zero_add, Nat.reduceAdd]
  refine wp_seq_k ?_
  intro K39 hK39
  refine wrt [.p 0] ?_
  refine pp rfl rfl (pr_bin rfl rfl (by first | exact bin_lss_n (n := 16)  | exact bin_lss_i)) ?_;simp only [nf]
  refine plan_nil hH ?_
  clear hH
  intro w40 hH
  refine hK39 _ _ ?_
  (try clear hK39 K39)
  refine wp_seq_k ?_
  intro K41 hK41
  refine wp_cond_split rfl (fun hc42 => ?_) (fun hc42 => ?_)
  ·
   (try simp only [cnd] at hc42)
   refine wp_skip ?_
   refine hK41 _ _ ?_
   (try clear hK41 K41)
   refine wp_seq_k ?_
   intro K43 hK43
   refine wp_block ?_
   refine wp_seq_k ?_
   intro K44 hK44
   refine wrt [.p 0, .p 1] ?_
   refine pm (pa ?_);simp only [nf]
   refine plan_nil hH ?_
   clear hH
   intro w45 hH
   refine hK44 _ _ ?_
   (try clear hK44 K44)
   refine wrp [.p 0, .p 2, .p 3, .p 4, .p 5, .p 6, .p 7, .p 8, .q 1, .q 9, .p 10, .p 11, .e 12] ?_
   refine pm (pm (pm ?_));simp only [nf]
   refine pp rfl rfl (pr_bin rfl rfl (by first | exact bin_rem_n (n := 4) (by omega))) ?_;simp only [nf]
   refine pp rfl rfl (pr_bin rfl rfl (by first | exact bin_mul_n (m := 4) (by omega) | exact bin_mul_i (by omega) (by omega))) ?_;simp only [nf]
   refine pp rfl rfl (pr_bin rfl rfl (by first | exact bin_add_n (by omega) | exact bin_add_i (by omega) (by omega))) ?_;simp only [nf]
   refine pp rfl rfl (pr_bin rfl rfl (by first | exact bin_rem_n (n := 16) (by omega))) ?_;simp only [nf]
   refine pp rfl rfl (pr_idxA1 rfl rfl Tryd.underlying130 sz5 (by omega)) ?_;simp only [nf]
   refine pq rfl rfl (qr_call cf88 (fun w' hw => sub_calls w') rfl) ?_;simp only [nf]
   refine pq rfl rfl (qr_load1 rfl Tryd.underlying5 rfl ((hH.blk 2 rfl).cell (arr8_get (by omega)))) ?_;simp only [nf]
   refine pp rfl rfl (pr_index_arr rfl rfl Tryd.underlying165 sz5 (notAgg Tryd.underlying5 rfl) (by first | omega | exact lt_u8 _) (arr8_get (by first | omega | exact lt_u8 _))) ?_;simp only [nf]
   refine pp rfl rfl (pr_idxA1 rfl rfl Tryd.underlying130 sz5 (by omega)) ?_;simp only [nf]
   refine plan_store1 3 rfl rfl hH rfl rfl rfl rfl sz5 (by simp <;> omega) ?_
   clear hH
   intro w46 hH
   (try simp only [nf, nh, Value.cells] at hH ⊢)
   refine plan_nil hH ?_
   clear hH
   intro w47 hH
   refine hK43 _ _ ?_
   (try clear hK43 K43)
   refine wrt [.p 0, .p 1] ?_
   refine pp rfl rfl (pr_bin rfl rfl (by first | exact bin_add_n (n := 1) (by omega) | exact bin_add_i (by omega) (by omega))) ?_;simp only [nf]
   refine pm ?_;simp only [nf]
   refine plan_nil hH ?_
   clear hH
   intro w48 hH
   (try simp only [Exit.then, Exit.inBlock, ↓reduceIte, Nat.reduceEqDiff])
   refine ⟨16 - (j + 1), ?_, _, rfl, by kernel_rfl, ?_⟩
   · first | omega | (omega)
   simp only [ga]
   refine ⟨j + 1, rfl, ?_, rfl, ?_⟩
   ·
    exact hH.say 3 rfl (arr8_congr fun i hi => upd_lt (g := subs (aesR kf f k)) (z := fun _ => 0) rfl i)
   · first | omega | (omega)
  ·
   (try simp only [cnd] at hc42)
   refine wp_exit ?_
   (try simp only [Exit.then, Exit.inBlock, ↓reduceIte, Nat.reduceEqDiff])
   refine hK30 _ _ ?_
   (try clear hK30 K30)
   refine wp_seq_k ?_
   intro K49 hK49
   refine wp_seq_k ?_
   intro K50 hK50
   refine wrt [.p 0, .p 1] ?_
   refine pm ?_;simp only [nf]
   refine pp rfl rfl (pr_bin rfl rfl (by first | exact bin_lss_n (n := 10)  | exact bin_lss_i)) ?_;simp only [nf]
   refine plan_nil hH ?_
   clear hH
   intro w51 hH
   refine hK50 _ _ ?_
   (try clear hK50 K50)
   refine wp_cond_split rfl (fun hc52 => ?_) (fun hc52 => ?_)
   ·
    (try simp only [cnd] at hc52)
    refine wp_seq_k ?_
    intro K53 hK53
    refine wrt [.p 0] ?_
    refine pka 0 ?_;simp only [nf]
    refine plan_nil hH ?_
    clear hH
    intro w54 hH
    refine hK53 _ _ ?_
    (try clear hK53 K53)
    refine wp_block ?_
    refine wp_loopT [9] [39, 40, 41, 42, 43, 44, 45, 46, 47] (fun (n55 : Nat) (vs : List Value) (w' : World) => ∃ (j : Nat), vs = [I64 ((4 * j : Nat))] ∧ Hp [] w w' [(some b2, 130, arr8 16 f), (some b4, 130, arr8 16 fun _ => 0), (some b8, 130, arr8 16 (aesR kf f k)), (some b27, 130, arr8 16 (colsN (subs (aesR kf f k)) j))] ∧ n55 = 4 - j ∧ j ≤ 4) (4 - 0) (by kernel_rfl) ?_ ?_
    ·
     simp only [ga]
     refine ⟨0, rfl, ?_, rfl, ?_⟩
     ·
      exact hH.say 3 rfl (arr8_congr fun i hi => by rw [if_pos (by omega)]; rfl)
     · first | omega | (omega)
    clear hH
    intro n55 vs56 w57 hR58 d2
    obtain ⟨j, rfl, hH, hn59, hf60⟩ := hR58
    simp only [putAll, putD, List.set_cons_zero, List.set_cons_succ, Nat.zero_add, Nat.reduceAdd]
    refine wp_seq_k ?_
    intro K61 hK61
    refine wp_seq_k ?_
    intro K62 hK62
    refine wrt [.p 0, .p 1] ?_
    refine pm ?_;simp only [nf]
    refine pp rfl rfl (pr_bin rfl rfl (by first | exact bin_lss_n (n := 16)  | exact bin_lss_i)) ?_;simp only [nf]
    refine plan_nil hH ?_
    clear hH
    intro w63 hH
    refine hK62 _ _ ?_
    (try clear hK62 K62)
    refine wp_cond_split rfl (fun hc64 => ?_) (fun hc64 => ?_)
    ·
     (try simp only [cnd] at hc64)
     refine wp_skip ?_
     refine hK61 _ _ ?_
     (try clear hK61 K61)
     refine wp_seq_k ?_
     intro K65 hK65
     refine wp_block ?_
     refine wrt [.p 0, .p 1, .p 2, .p 3, .e 4] ?_
     refine pm (pm ?_);simp only [nf]
     refine pp rfl rfl (pr_bin rfl rfl (by first | exact bin_add_n (n := 4) (by omega) | exact bin_add_i (by omega) (by omega))) ?_;simp only [nf]
     refine pp rfl rfl (pr_slice_arr_lh1 rfl rfl rfl Tryd.underlying130 sz5 (by omega) (by omega) (by omega)) ?_;simp only [nf]
     (try simp only [Nat.mul_one, Nat.zero_add, Nat.add_sub_cancel_left])
     refine plan_calle rfl rfl hH cf101 (fun w' hH => column_calls _ _ _ _ _ _ (by omega) w' (hH.blk 3 rfl)) rfl ?_
     clear hH
     intro w66 v67 w68 hH hp69
     obtain ⟨rfl, hg, hbk⟩ := hp69
     replace hH := hH.callw 3 rfl hg hbk
     clear hg hbk
     (try simp only [nf, nh, Value.cells] at hH ⊢)
     refine plan_nil hH ?_
     clear hH
     intro w70 hH
     refine hK65 _ _ ?_
     (try clear hK65 K65)
     refine wrt [.p 0, .p 1, .p 2] ?_
     refine pm ?_;simp only [nf]
     refine pp rfl rfl (pr_bin rfl rfl (by first | exact bin_add_n (n := 4) (by omega) | exact bin_add_i (by omega) (by omega))) ?_;simp only [nf]
     refine pa ?_;simp only [nf]
     refine plan_nil hH ?_
     clear hH
     intro w71 hH
     (try simp only [Exit.then, Exit.inBlock, ↓reduceIte, Nat.reduceEqDiff])
     refine ⟨4 - (j + 1), ?_, _, rfl, by kernel_rfl, ?_⟩
     · first | omega | (omega)
     simp only [ga]
     refine ⟨j + 1, rfl, ?_, rfl, ?_⟩
     ·
      exact hH
     · first | omega | (omega)
    ·
     (try simp only [cnd] at hc64)
     refine wp_exit ?_
     (try simp only [Exit.then, Exit.inBlock, ↓reduceIte, Nat.reduceEqDiff])
     refine hK49 _ _ ?_
     (try clear hK49 K49)
     refine wrp [.p 1, .p 2, .p 3, .p 4, .p 5, .q 0, .q 6, .q 7, .e 8] ?_
     refine pm (pm ?_);simp only [nf]
     refine pp rfl rfl (pr_nilCheck rfl) ?_;simp only [nf]
     refine pp rfl rfl (pr_fieldAddr 0 rfl Tryd.underlying163 rfl rfl sz161) ?_;simp only [nf]
     refine pp rfl rfl (pr_idxA rfl rfl Tryd.underlying161 sz130 (by omega)) ?_;simp only [nf]
     refine pq rfl rfl (qr_loadW rfl (hH.blk 3 rfl) Tryd.underlying130 rfl sz130 (by simp)) ?_;simp only [nf]
     refine pq rfl rfl (qr_load8 rfl (hH.chg.nil_blk hc) Tryd.underlying130 rfl sz130 (by omega)) ?_;simp only [nf]
     refine pq rfl rfl (qr_call cf100 (fun w' hw => mix_calls _ _ w') rfl) ?_;simp only [nf]
     refine plan_storeW 2 rfl rfl hH rfl rfl rfl one_arr8 sz130 (by simp) (by simp) ?_
     clear hH
     intro w72 hH
     (try simp only [nf, nh, Value.cells] at hH ⊢)
     refine plan_nil hH ?_
     clear hH
     intro w73 hH
     refine hK25 _ _ ?_
     (try clear hK25 K25)
     refine wrt [.p 0, .p 1, .p 2] ?_
     refine pm ?_;simp only [nf]
     refine pp rfl rfl (pr_bin rfl rfl (by first | exact bin_add_n (n := 1) (by omega) | exact bin_add_i (by omega) (by omega))) ?_;simp only [nf]
     refine pa ?_;simp only [nf]
     refine plan_nil hH ?_
     clear hH
     intro w74 hH
     (try simp only [Exit.then, Exit.inBlock, ↓reduceIte, Nat.reduceEqDiff])
     refine ⟨10 - (k + 1), ?_, _, rfl, by kernel_rfl, ?_⟩
     · first | omega | (omega)
     simp only [ga]
     refine ⟨k + 1, rfl, ?_, rfl, ?_⟩
     ·
      obtain rfl : j = 4 := by omega
      exact (hH.take 3).say 2 rfl (arr8_congr fun i hi => by rw [aesR_succ]; rw [if_pos (by omega)])
     · first | omega | (omega)
   ·
    (try simp only [cnd] at hc52)
    refine wp_skip ?_
    refine hK49 _ _ ?_
    (try clear hK49 K49)
    refine wrp [.p 1, .p 2, .p 3, .p 4, .p 5, .q 0, .q 6, .q 7, .e 8] ?_
    refine pm (pm ?_);simp only [nf]
    refine pp rfl rfl (pr_nilCheck rfl) ?_;simp only [nf]
    refine pp rfl rfl (pr_fieldAddr 0 rfl Tryd.underlying163 rfl rfl sz161) ?_;simp only [nf]
    refine pp rfl rfl (pr_idxA rfl rfl Tryd.underlying161 sz130 (by omega)) ?_;simp only [nf]
    refine pq rfl rfl (qr_loadW rfl (hH.blk 3 rfl) Tryd.underlying130 rfl sz130 (by simp)) ?_;simp only [nf]
    refine pq rfl rfl (qr_load8 rfl (hH.chg.nil_blk hc) Tryd.underlying130 rfl sz130 (by omega)) ?_;simp only [nf]
    refine pq rfl rfl (qr_call cf100 (fun w' hw => mix_calls _ _ w') rfl) ?_;simp only [nf]
    refine plan_storeW 2 rfl rfl hH rfl rfl rfl one_arr8 sz130 (by simp) (by simp) ?_
    clear hH
    intro w75 hH
    (try simp only [nf, nh, Value.cells] at hH ⊢)
    refine plan_nil hH ?_
    clear hH
    intro w76 hH
    refine hK25 _ _ ?_
    (try clear hK25 K25)
    refine wrt [.p 0, .p 1, .p 2] ?_
    refine pm ?_;simp only [nf]
    refine pp rfl rfl (pr_bin rfl rfl (by first | exact bin_add_n (n := 1) (by omega) | exact bin_add_i (by omega) (by omega))) ?_;simp only [nf]
    refine pa ?_;simp only [nf]
    refine plan_nil hH ?_
    clear hH
    intro w77 hH
    (try simp only [Exit.then, Exit.inBlock, ↓reduceIte, Nat.reduceEqDiff])
    refine ⟨10 - (k + 1), ?_, _, rfl, by kernel_rfl, ?_⟩
    · first | omega | (omega)
    simp only [ga]
    refine ⟨k + 1, rfl, ?_, rfl, ?_⟩
    ·
     exact (hH.take 3).say 2 rfl (arr8_congr fun i hi => by rw [aesR_succ]; rw [if_neg (by omega : ¬ k + 1 < 10), if_pos (by omega : i < j)])
    · first | omega | (omega)
 ·
  (try simp only [cnd] at hc24)
  refine wp_exit ?_
  (try simp only [Exit.then, Exit.inBlock, ↓reduceIte, Nat.reduceEqDiff])
  refine hK12 _ _ ?_
  (try clear hK12 K12)
  refine wp_seq_k ?_
  intro K78 hK78
  refine wrt [.q 0, .e 1] ?_
  refine pq rfl rfl (qr_loadW rfl (hH.blk 2 rfl) Tryd.underlying130 rfl sz130 (by simp)) ?_;simp only [nf]
  refine plan_storeW 1 rfl rfl hH rfl rfl rfl one_arr8 sz130 (by simp) (by simp) ?_
  clear hH
  intro w79 hH
  (try simp only [nf, nh, Value.cells] at hH ⊢)
  refine plan_nil hH ?_
  clear hH
  intro w80 hH
  refine hK78 _ _ ?_
  (try clear hK78 K78)
  refine wp_ret ?_
  (try simp only [Exit.then, Exit.inBlock, ↓reduceIte, Nat.reduceEqDiff])
  refine BP.retc rfl rfl (hH.blk 1 rfl) Tryd.underlying130 rfl sz130 (by simp) ?_
  obtain rfl : k = 10 := by omega
  exact ⟨rfl, hH.chg⟩
end Go.Proofs.YtdkjdioccpoacaaDoor
set_option linter.unusedSimpArgs false
set_option linter.unusedVariables false
set_option maxRecDepth 100000
set_option maxHeartbeats 4000000
namespace Go.Proofs.YtdkjdioccpoacaaDoor
open Go
open List (getD_cons_zero getD_cons_succ set_cons_zero set_cons_succ)
def conN : Nat → UInt8
  | 0 => 1
  | n + 1 => dbl (conN n)
def kexp (key : Nat → UInt8) (n : Nat) : UInt8 :=
  if n < 16 then key n
  else if n % 16 < 4 then kexp key (n - 16) ^^^ (sbox (kexp key (n - n % 16 - 4 + (n % 16 + 1) % 4)).toNat ^^^ (if n % 16 = 0 then conN (n / 16 - 1) else 0))
  else kexp key (n - 16) ^^^ kexp key (n - 4)
termination_by n
decreasing_by all_goals omega
theorem kexp_lo (key : Nat → UInt8) {n : Nat} (h : n < 16) : kexp key n = key n := by rw [kexp, if_pos h]
theorem kexp_a (key : Nat → UInt8) {n : Nat} (h : 16 ≤ n) (h1 : n % 16 < 4) : kexp key n = kexp key (n - 16) ^^^ (sbox (kexp key (n - n % 16 - 4 + (n % 16 + 1) % 4)).toNat ^^^ (if n % 16 = 0 then conN (n / 16 - 1) else 0)) := by
  rw [kexp, if_neg (by omega), if_pos h1]
theorem kexp_b (key : Nat → UInt8) {n : Nat} (h : 16 ≤ n) (h1 : ¬ n % 16 < 4) : kexp key n = kexp key (n - 16) ^^^ kexp key (n - 4) := by
  rw [kexp, if_neg (by omega), if_neg h1]
theorem upd_cut {g : Nat → UInt8} {m m' m'' : Nat} {v : UInt8} (h1 : m' = m) (h2 : m'' = m + 1) (hv : v = g m) (i : Nat) :
    upd (fun n => if n < m then g n else 0) m' v i = if i < m'' then g i else 0 := by
  subst h1 h2 hv
  simp only [upd]
  by_cases h : i = m'
  · subst h; rw [if_pos rfl, if_pos (by omega)]
  · rw [if_neg h]
    by_cases h1 : i < m'
    · rw [if_pos h1, if_pos (by omega)]
    · rw [if_neg h1, if_neg (by omega)]
theorem kstep_a (g : Nat → UInt8) (k j : Nat) (hj : j < 4) (h0 : ¬ j = 0) :
    ((if (k + 1 - 1) * 16 + j < 16 * (k + 1) + j then kexp g ((k + 1 - 1) * 16 + j) else 0) ^^^
      sbox (if (k + 1 - 1) * 16 + (12 + (j + 1) % 4) < 16 * (k + 1) + j then kexp g ((k + 1 - 1) * 16 + (12 + (j + 1) % 4)) else 0).toNat) = kexp g (16 * (k + 1) + j) := by
  rw [if_pos (by omega), if_pos (by omega), kexp_a (n := 16 * (k + 1) + j) _ (by omega) (by omega), if_neg (by omega), UInt8.xor_zero]
  rw [show 16 * (k + 1) + j - 16 = (k + 1 - 1) * 16 + j by omega, show 16 * (k + 1) + j - (16 * (k + 1) + j) % 16 - 4 + ((16 * (k + 1) + j) % 16 + 1) % 4 = (k + 1 - 1) * 16 + (12 + (j + 1) % 4) by omega]
theorem kstep_0 (g : Nat → UInt8) (k j : Nat) (h0 : j = 0) :
    ((if (k + 1 - 1) * 16 + j < 16 * (k + 1) + j then kexp g ((k + 1 - 1) * 16 + j) else 0) ^^^
      (sbox (if (k + 1 - 1) * 16 + (12 + (j + 1) % 4) < 16 * (k + 1) + j then kexp g ((k + 1 - 1) * 16 + (12 + (j + 1) % 4)) else 0).toNat ^^^ conN k)) = kexp g (16 * (k + 1) + j) := by
  subst h0
  rw [if_pos (by omega), if_pos (by omega), kexp_a (n := 16 * (k + 1) + 0) _ (by omega) (by omega), if_pos (by omega)]
  rw [show 16 * (k + 1) + 0 - 16 = (k + 1 - 1) * 16 + 0 by omega, show 16 * (k + 1) + 0 - (16 * (k + 1) + 0) % 16 - 4 + ((16 * (k + 1) + 0) % 16 + 1) % 4 = (k + 1 - 1) * 16 + (12 + (0 + 1) % 4) by omega, show (16 * (k + 1) + 0) / 16 - 1 = k by omega]
theorem kstep_b (g : Nat → UInt8) (k j : Nat) (hj : 4 ≤ j) (hj' : j < 16) :
    ((if (k + 1 - 1) * 16 + j < 16 * (k + 1) + j then kexp g ((k + 1 - 1) * 16 + j) else 0) ^^^
      if (k + 1) * 16 + (j - 4) < 16 * (k + 1) + j then kexp g ((k + 1) * 16 + (j - 4)) else 0) = kexp g (16 * (k + 1) + j) := by
  rw [if_pos (by omega), if_pos (by omega), kexp_b (n := 16 * (k + 1) + j) _ (by omega) (by omega)]
  rw [show 16 * (k + 1) + j - 16 = (k + 1 - 1) * 16 + j by omega, show 16 * (k + 1) + j - 4 = (k + 1) * 16 + (j - 4) by omega]
theorem new_calls (key : Value) (l : List UInt8) (w : World) (hk : Sl w key l) (hl : l.length = 16) :
    Ret Tryd.prog 59 #[key] w fun v w' => ∃ b, v = .tuple #[PT b 0, I64 (0 : Nat)] ∧ Chg [] w w' ∧ w.heap.size ≤ b ∧ Blk w' b 163 (arr8 176 (kexp fun i => l.getD i 0)) := by
 refine Ret.enter Tryd.func59 rfl ?_
 simp only [Tryd.ntmps59, fe, Nat.reduceAdd, Nat.reduceSub]
 have hH := Hp.start [] w
 refine wp_seq_k ?_
 intro K1 hK1
 refine wrt [.p 0, .p 1] ?_
 refine pa (pka 0 ?_);simp only [nf]
 refine plan_nil hH ?_
 clear hH
 intro w2 hH
 refine hK1 _ _ ?_
 (try clear hK1 K1)
 refine wp_seq_k ?_
 intro K3 hK3
 refine wp_seq_k ?_
 intro K4 hK4
 refine wrt [.p 0, .p 1, .p 2] ?_
 refine pm ?_;simp only [nf]
 refine pp rfl rfl (pr_len_Sl (hk.chg hH.chg) rfl Tryd.underlying29) ?_;simp only [nf]
 refine pp rfl rfl (pr_bin rfl rfl (by first | exact bin_neq_n (n := 16)  | exact bin_neq_i)) ?_;simp only [nf]
 refine plan_nil hH ?_
 clear hH
 intro w5 hH
 refine hK4 _ _ ?_
 (try clear hK4 K4)
 refine wp_cond_false (by show BV _ = _; rw [hl]; rfl) ?_
 refine wp_skip ?_
 refine hK3 _ _ ?_
 (try clear hK3 K3)
 refine wp_seq_k ?_
 intro K6 hK6
 refine wrt [.p 0, .x 1, .p 2] ?_
 refine plan_p (v := .agg (arr8 176 fun _ => 0)) rfl rfl (fun w => by kernel_rfl) ?_
 (try simp only [nf])
 refine plan_box rfl rfl hH rfl ?_
 clear hH
 intro b7 w8 hH
 (try simp only [nf, nh, Value.cells] at hH ⊢)
 refine pa ?_;simp only [nf]
 refine plan_nil hH ?_
 clear hH
 intro w9 hH
 refine hK6 _ _ ?_
 (try clear hK6 K6)
 refine wp_seq_k ?_
 intro K10 hK10
 refine wrt [.p 0, .p 1, .p 2, .p 3, .p 4, .p 5, .e 6] ?_
 refine pm ?_;simp only [nf]
 refine pp rfl rfl (pr_nilCheck rfl) ?_;simp only [nf]
 refine pp rfl rfl (pr_fieldAddr 0 rfl Tryd.underlying163 rfl rfl sz161) ?_;simp only [nf]
 refine pp rfl rfl (pr_idxA (i := 0) rfl rfl Tryd.underlying161 sz130 (by omega)) ?_;simp only [nf]
 refine pp rfl rfl (pr_slice_arr_all rfl Tryd.underlying130 sz5) ?_;simp only [nf]
 (try simp only [Nat.mul_one, Nat.zero_add, Nat.add_sub_cancel_left])
 refine pm ?_;simp only [nf]
 refine plan_copy 0 rfl rfl hH rfl (fun w' hH => ((hk.chg hH.chg)).csrc) rfl rfl Tryd.underlying29 sz5 (by omega) ?_
 clear hH
 intro w11 hH
 (try simp only [nf, nh, Value.cells] at hH ⊢)
 refine plan_nil hH ?_
 clear hH
 intro w12 hH
 refine hK10 _ _ ?_
 (try clear hK10 K10)
 refine wp_seq_k ?_
 intro K13 hK13
 refine wrt [.p 0] ?_
 refine pa ?_;simp only [nf]
 refine plan_nil hH ?_
 clear hH
 intro w14 hH
 refine hK13 _ _ ?_
 (try clear hK13 K13)
 refine wp_seq_k ?_
 intro K15 hK15
 refine wp_seq_k ?_
 intro K16 hK16
 refine wrt [.p 0] ?_
 refine pka 1 ?_;simp only [nf]
 refine plan_nil hH ?_
 clear hH
 intro w17 hH
 refine hK16 _ _ ?_
 (try clear hK16 K16)
 refine wp_block ?_
 refine wp_loopT [5, 6] [7, 8, 9, 10, 23, 24, 25, 26, 27, 28, 29, 30, 31, 32, 33, 34, 35, 36, 37, 38, 39, 40, 41, 42, 43, 44, 45, 46, 47, 48, 49, 50, 51, 52, 53, 54, 55, 56, 57, 58, 59, 60, 61, 62, 63, 64, 65, 66, 67, 68, 69, 70, 71, 72, 73, 74, 75, 76, 77] (fun (n18 : Nat) (vs : List Value) (w' : World) => ∃ (k : Nat), vs = [V8 (conN k), I64 ((k + 1 : Nat))] ∧ Hp [] w w' [(some b7, 163, arr8 176 fun n => if n < 16 * (k + 1) then kexp (fun i => l.getD i 0) n else 0)] ∧ n18 = 10 - k ∧ k ≤ 10) (10 - 0) (by kernel_rfl) ?_ ?_
 ·
  simp only [ga]
  refine ⟨0, rfl, ?_, rfl, ?_⟩
  ·
   refine hH.say 0 rfl (arr8_congr fun i hi => ?_)
   by_cases h : i < 16
   · rw [if_pos (by omega), if_pos (by omega), kexp_lo _ h]; rfl
   · rw [if_neg (by omega), if_neg (by omega)]
  · first | omega | (omega)
 clear hH
 intro n18 vs19 w20 hR21 d0
 obtain ⟨k, rfl, hH, hn22, hf23⟩ := hR21
 simp only [putAll, putD, List.set_cons_zero, List.set_cons_succ, Nat.zero_add, Nat.reduceAdd]
 refine wp_seq_k ?_
 intro K24 hK24
 refine wp_seq_k ?_
 intro K25 hK25
 refine wrt [.p 0, .p 1] ?_
 refine pm ?_;simp only [nf]
 refine pp rfl rfl (pr_bin rfl rfl (by first | exact bin_leq_n (n := 10)  | exact bin_leq_i)) ?_;simp only [nf]
 refine plan_nil hH ?_
 clear hH
 intro w26 hH
 refine hK25 _ _ ?_
 (try clear hK25 K25)
 refine wp_cond_split rfl (fun hc27 => ?_) (fun hc27 => ?_)
 ·
  (try simp only [cnd] at hc27)
  refine wp_skip ?_
  refine hK24 _ _ ?_
  (try clear hK24 K24)
  refine wp_seq_k ?_
  intro K28 hK28
  refine wp_block ?_
  refine wp_seq_k ?_
  intro K29 hK29
  refine wrp [.p 0, .p 1, .p 2, .p 3, .p 4, .p 5, .p 6, .p 7, .p 8, .p 9, .p 10, .p 11, .p 12] ?_
  refine pm (pm ?_);simp only [nf]
  refine pp rfl rfl (pr_bin rfl rfl (by first | exact bin_sub_n (n := 1) (by omega) (by omega) | exact bin_sub_i (by omega) (by omega))) ?_;simp only [nf]
  refine pp rfl rfl (pr_nilCheck rfl) ?_;simp only [nf]
  refine pp rfl rfl (pr_fieldAddr 0 rfl Tryd.underlying163 rfl rfl sz161) ?_;simp only [nf]
  refine pp rfl rfl (pr_idxA rfl rfl Tryd.underlying161 sz130 (by omega)) ?_;simp only [nf]
  refine pm (pm ?_);simp only [nf]
  refine pp rfl rfl (pr_nilCheck rfl) ?_;simp only [nf]
  refine pp rfl rfl (pr_fieldAddr 0 rfl Tryd.underlying163 rfl rfl sz161) ?_;simp only [nf]
  refine pp rfl rfl (pr_idxA rfl rfl Tryd.underlying161 sz130 (by omega)) ?_;simp only [nf]
  refine pa (pa ?_);simp only [nf]
  refine plan_nil hH ?_
  clear hH
  intro w30 hH
  refine hK29 _ _ ?_
  (try clear hK29 K29)
  refine wp_seq_k ?_
  intro K31 hK31
  refine wp_seq_k ?_
  intro K32 hK32
  refine wrt [.p 0] ?_
  refine pk 0 ?_;simp only [nf]
  refine plan_nil hH ?_
  clear hH
  intro w33 hH
  refine hK32 _ _ ?_
  (try clear hK32 K32)
  refine wp_block ?_
  refine wp_loopT [38] [9, 10, 39, 40, 41, 42, 43, 44, 45, 46, 47, 48, 49, 50, 51, 52, 53, 54, 55, 56, 57, 58, 59, 60, 61, 62, 63, 64, 65, 66, 67, 68, 69, 70, 71, 72, 73, 74, 75] (fun (n34 : Nat) (vs : List Value) (w' : World) => ∃ (j : Nat), vs = [I64 (j : Nat)] ∧ Hp [] w w' [(some b7, 163, arr8 176 fun n => if n < 16 * (k + 1) + j then kexp (fun i => l.getD i 0) n else 0)] ∧ n34 = 16 - j ∧ j ≤ 16) (16 - 0) (by kernel_rfl) ?_ ?_
  ·
   simp only [ga]
   refine ⟨0, rfl, ?_, rfl, ?_⟩
   ·
    exact hH
   · first | omega | (omega)
  clear hH
  intro n34 vs35 w36 hR37 d1
  obtain ⟨j, rfl, hH, hn38, hf39⟩ := hR37
  simp only [putAll, putD, List.set_cons_zero, List.set_cons_succ, Nat.zero_add, Nat.reduceAdd]
  refine wp_seq_k ?_
  intro K40 hK40
  refine wrt [.p 0] ?_
  refine pp rfl rfl (pr_bin rfl rfl (by first | exact bin_lss_n (n := 16)  | exact bin_lss_i)) ?_;simp only [nf]
  refine plan_nil hH ?_
  clear hH
  intro w41 hH
  refine hK40 _ _ ?_
  (try clear hK40 K40)
  refine wp_seq_k ?_
  intro K42 hK42
  refine wp_cond_split rfl (fun hc43 => ?_) (fun hc43 => ?_)
  ·
   (try simp only [cnd] at hc43)
   refine wp_skip ?_
   refine hK42 _ _ ?_
   (try clear hK42 K42)
   refine wp_seq_k ?_
   intro K44 hK44
   refine wp_block ?_
   refine wp_seq_k ?_
   intro K45 hK45
   refine wrt [.p 0, .p 1] ?_
   refine pm (pa ?_);simp only [nf]
   refine plan_nil hH ?_
   clear hH
   intro w46 hH
   refine hK45 _ _ ?_
   (try clear hK45 K45)
   refine wp_seq_k ?_
   intro K47 hK47
   refine wrt [.p 0] ?_
   refine pa ?_;simp only [nf]
   refine plan_nil hH ?_
   clear hH
   intro w48 hH
   refine hK47 _ _ ?_
   (try clear hK47 K47)
   refine wp_seq_k ?_
   intro K49 hK49
   refine wp_seq_k ?_
   intro K50 hK50
   refine wrt [.p 0, .p 1] ?_
   refine pm ?_;simp only [nf]
   refine pp rfl rfl (pr_bin rfl rfl (by first | exact bin_lss_n (n := 4)  | exact bin_lss_i)) ?_;simp only [nf]
   refine plan_nil hH ?_
   clear hH
   intro w51 hH
   refine hK50 _ _ ?_
   (try clear hK50 K50)
   refine wp_cond_split rfl (fun hc52 => ?_) (fun hc52 => ?_)
   ·
    (try simp only [cnd] at hc52)
    refine wp_seq_k ?_
    intro K53 hK53
    refine wrp [.p 1, .p 2, .p 3, .p 4, .p 5, .p 6, .p 7, .q 0, .q 8, .p 9, .p 10] ?_
    refine pm (pm ?_);simp only [nf]
    refine pp rfl rfl (pr_bin rfl rfl (by first | exact bin_add_n (n := 1) (by omega) | exact bin_add_i (by omega) (by omega))) ?_;simp only [nf]
    refine pp rfl rfl (pr_bin rfl rfl (by first | exact bin_rem_n (n := 4) (by omega))) ?_;simp only [nf]
    refine pp rfl rfl (pr_bin rfl rfl (by first | exact bin_add_n (m := 12) (by omega) | exact bin_add_i (by omega) (by omega))) ?_;simp only [nf]
    refine pp rfl rfl (pr_nilCheck rfl) ?_;simp only [nf]
    refine pp rfl rfl (pr_idxA1 rfl rfl Tryd.underlying130 sz5 (by omega)) ?_;simp only [nf]
    refine pq rfl rfl (qr_call cf88 (fun w' hw => sub_calls w') rfl) ?_;simp only [nf]
    refine pq rfl rfl (qr_load1 rfl Tryd.underlying5 rfl ((hH.blk 0 rfl).cell (arr8_get (by omega)))) ?_;simp only [nf]
    refine pp rfl rfl (pr_index_arr rfl rfl Tryd.underlying165 sz5 (notAgg Tryd.underlying5 rfl) (by first | omega | exact lt_u8 _) (arr8_get (by first | omega | exact lt_u8 _))) ?_;simp only [nf]
    refine pa ?_;simp only [nf]
    refine plan_nil hH ?_
    clear hH
    intro w54 hH
    refine hK53 _ _ ?_
    (try clear hK53 K53)
    refine wp_seq_k ?_
    intro K55 hK55
    refine wrt [.p 0, .p 1] ?_
    refine pm ?_;simp only [nf]
    refine pp rfl rfl (pr_bin rfl rfl (by first | exact bin_eql_n (n := 0)  | exact bin_eql_i)) ?_;simp only [nf]
    refine plan_nil hH ?_
    clear hH
    intro w56 hH
    refine hK55 _ _ ?_
    (try clear hK55 K55)
    refine wp_cond_split rfl (fun hc57 => ?_) (fun hc57 => ?_)
    ·
     (try simp only [cnd] at hc57)
     refine wrt [.p 0, .p 1, .p 2, .p 3] ?_
     refine pm (pm ?_);simp only [nf]
     refine pp rfl rfl (pr_bin rfl rfl (bin_xor_u8 _ _)) ?_;simp only [nf]
     refine pa ?_;simp only [nf]
     refine plan_nil hH ?_
     clear hH
     intro w58 hH
     refine hK49 _ _ ?_
     (try clear hK49 K49)
     refine wrp [.p 0, .p 1, .p 2, .p 3, .p 4, .p 5, .p 7, .p 9, .q 6, .p 8, .p 10, .e 11] ?_
     refine pm (pm (pm (pm ?_)));simp only [nf]
     refine pp rfl rfl (pr_nilCheck rfl) ?_;simp only [nf]
     refine pp rfl rfl (pr_idxA1 rfl rfl Tryd.underlying130 sz5 (by omega)) ?_;simp only [nf]
     refine pm ?_;simp only [nf]
     refine pp rfl rfl (pr_nilCheck rfl) ?_;simp only [nf]
     refine pq rfl rfl (qr_load1 rfl Tryd.underlying5 rfl ((hH.blk 0 rfl).cell (arr8_get (by omega)))) ?_;simp only [nf]
     refine pp rfl rfl (pr_bin rfl rfl (bin_xor_u8 _ _)) ?_;simp only [nf]
     refine pp rfl rfl (pr_idxA1 rfl rfl Tryd.underlying130 sz5 (by omega)) ?_;simp only [nf]
     refine plan_store1 0 rfl rfl hH rfl rfl rfl rfl sz5 (by simp <;> omega) ?_
     clear hH
     intro w59 hH
     (try simp only [nf, nh, Value.cells] at hH ⊢)
     refine plan_nil hH ?_
     clear hH
     intro w60 hH
     refine hK44 _ _ ?_
     (try clear hK44 K44)
     refine wrt [.p 0, .p 1] ?_
     refine pp rfl rfl (pr_bin rfl rfl (by first | exact bin_add_n (n := 1) (by omega) | exact bin_add_i (by omega) (by omega))) ?_;simp only [nf]
     refine pm ?_;simp only [nf]
     refine plan_nil hH ?_
     clear hH
     intro w61 hH
     (try simp only [Exit.then, Exit.inBlock, ↓reduceIte, Nat.reduceEqDiff])
     refine ⟨16 - (j + 1), ?_, _, rfl, by kernel_rfl, ?_⟩
     · first | omega | (omega)
     simp only [ga]
     refine ⟨j + 1, rfl, ?_, rfl, ?_⟩
     ·
      exact hH.say 0 rfl (arr8_congr fun i hi => upd_cut (by omega) (by omega) (kstep_0 _ _ _ (by omega)) i)
     · first | omega | (omega)
    ·
     (try simp only [cnd] at hc57)
     refine wp_skip ?_
     refine hK49 _ _ ?_
     (try clear hK49 K49)
     refine wrp [.p 0, .p 1, .p 2, .p 3, .p 4, .p 5, .p 7, .p 9, .q 6, .p 8, .p 10, .e 11] ?_
     refine pm (pm (pm (pm ?_)));simp only [nf]
     refine pp rfl rfl (pr_nilCheck rfl) ?_;simp only [nf]
     refine pp rfl rfl (pr_idxA1 rfl rfl Tryd.underlying130 sz5 (by omega)) ?_;simp only [nf]
     refine pm ?_;simp only [nf]
     refine pp rfl rfl (pr_nilCheck rfl) ?_;simp only [nf]
     refine pq rfl rfl (qr_load1 rfl Tryd.underlying5 rfl ((hH.blk 0 rfl).cell (arr8_get (by omega)))) ?_;simp only [nf]
     refine pp rfl rfl (pr_bin rfl rfl (bin_xor_u8 _ _)) ?_;simp only [nf]
     refine pp rfl rfl (pr_idxA1 rfl rfl Tryd.underlying130 sz5 (by omega)) ?_;simp only [nf]
     refine plan_store1 0 rfl rfl hH rfl rfl rfl rfl sz5 (by simp <;> omega) ?_
     clear hH
     intro w62 hH
     (try simp only [nf, nh, Value.cells] at hH ⊢)
     refine plan_nil hH ?_
     clear hH
     intro w63 hH
     refine hK44 _ _ ?_
     (try clear hK44 K44)
     refine wrt [.p 0, .p 1] ?_
     refine pp rfl rfl (pr_bin rfl rfl (by first | exact bin_add_n (n := 1) (by omega) | exact bin_add_i (by omega) (by omega))) ?_;simp only [nf]
     refine pm ?_;simp only [nf]
     refine plan_nil hH ?_
     clear hH
     intro w64 hH
     (try simp only [Exit.then, Exit.inBlock, ↓reduceIte, Nat.reduceEqDiff])
     refine ⟨16 - (j + 1), ?_, _, rfl, by kernel_rfl, ?_⟩
     · first | omega | (omega)
     simp only [ga]
     refine ⟨j + 1, rfl, ?_, rfl, ?_⟩
     ·
      exact hH.say 0 rfl (arr8_congr fun i hi => upd_cut (by omega) (by omega) (kstep_a _ _ _ (by omega) (by omega)) i)
     · first | omega | (omega)
   ·
    (try simp only [cnd] at hc52)
    refine wrt [.p 0, .p 1, .p 2, .p 3, .p 4, .q 5, .p 6] ?_
    refine pm (pm ?_);simp only [nf]
    refine pp rfl rfl (pr_bin rfl rfl (by first | exact bin_sub_n (n := 4) (by omega) (by omega) | exact bin_sub_i (by omega) (by omega))) ?_;simp only [nf]
    refine pp rfl rfl (pr_nilCheck rfl) ?_;simp only [nf]
    refine pp rfl rfl (pr_idxA1 rfl rfl Tryd.underlying130 sz5 (by omega)) ?_;simp only [nf]
    refine pq rfl rfl (qr_load1 rfl Tryd.underlying5 rfl ((hH.blk 0 rfl).cell (arr8_get (by omega)))) ?_;simp only [nf]
    refine pa ?_;simp only [nf]
    refine plan_nil hH ?_
    clear hH
    intro w65 hH
    refine hK49 _ _ ?_
    (try clear hK49 K49)
    refine wrp [.p 0, .p 1, .p 2, .p 3, .p 4, .p 5, .p 7, .p 9, .q 6, .p 8, .p 10, .e 11] ?_
    refine pm (pm (pm (pm ?_)));simp only [nf]
    refine pp rfl rfl (pr_nilCheck rfl) ?_;simp only [nf]
    refine pp rfl rfl (pr_idxA1 rfl rfl Tryd.underlying130 sz5 (by omega)) ?_;simp only [nf]
    refine pm ?_;simp only [nf]
    refine pp rfl rfl (pr_nilCheck rfl) ?_;simp only [nf]
    refine pq rfl rfl (qr_load1 rfl Tryd.underlying5 rfl ((hH.blk 0 rfl).cell (arr8_get (by omega)))) ?_;simp only [nf]
    refine pp rfl rfl (pr_bin rfl rfl (bin_xor_u8 _ _)) ?_;simp only [nf]
    refine pp rfl rfl (pr_idxA1 rfl rfl Tryd.underlying130 sz5 (by omega)) ?_;simp only [nf]
    refine plan_store1 0 rfl rfl hH rfl rfl rfl rfl sz5 (by simp <;> omega) ?_
    clear hH
    intro w66 hH
    (try simp only [nf, nh, Value.cells] at hH ⊢)
    refine plan_nil hH ?_
    clear hH
    intro w67 hH
    refine hK44 _ _ ?_
    (try clear hK44 K44)
    refine wrt [.p 0, .p 1] ?_
    refine pp rfl rfl (pr_bin rfl rfl (by first | exact bin_add_n (n := 1) (by omega) | exact bin_add_i (by omega) (by omega))) ?_;simp only [nf]
    refine pm ?_;simp only [nf]
    refine plan_nil hH ?_
    clear hH
    intro w68 hH
    (try simp only [Exit.then, Exit.inBlock, ↓reduceIte, Nat.reduceEqDiff])
    refine ⟨16 - (j + 1), ?_, _, rfl, by kernel_rfl, ?_⟩
    · first | omega | (omega)
    simp only [ga]
    refine ⟨j + 1, rfl, ?_, rfl, ?_⟩
    ·
     exact hH.say 0 rfl (arr8_congr fun i hi => upd_cut (by omega) (by omega) (kstep_b _ _ _ (by omega) (by omega)) i)
    · first | omega | (omega)
  ·
   (try simp only [cnd] at hc43)
   refine wp_exit ?_
   (try simp only [Exit.then, Exit.inBlock, ↓reduceIte, Nat.reduceEqDiff])
   refine hK31 _ _ ?_
   (try clear hK31 K31)
   refine wrt [.p 0, .q 1, .p 2] ?_
   refine pm ?_;simp only [nf]
   refine pq rfl rfl (qr_call cf89 (fun w' hw => double_calls _ w') rfl) ?_;simp only [nf]
   refine pa ?_;simp only [nf]
   refine plan_nil hH ?_
   clear hH
   intro w69 hH
   refine hK28 _ _ ?_
   (try clear hK28 K28)
   refine wrt [.p 0, .p 1, .p 2] ?_
   refine pm ?_;simp only [nf]
   refine pp rfl rfl (pr_bin rfl rfl (by first | exact bin_add_n (n := 1) (by omega) | exact bin_add_i (by omega) (by omega))) ?_;simp only [nf]
   refine pa ?_;simp only [nf]
   refine plan_nil hH ?_
   clear hH
   intro w70 hH
   (try simp only [Exit.then, Exit.inBlock, ↓reduceIte, Nat.reduceEqDiff])
   refine ⟨10 - (k + 1), ?_, _, rfl, by kernel_rfl, ?_⟩
   · first | omega | (omega)
   simp only [ga]
   refine ⟨k + 1, rfl, ?_, rfl, ?_⟩
   ·
    obtain rfl : j = 16 := by omega
    exact hH
   · first | omega | (omega)
 ·
  (try simp only [cnd] at hc27)
  refine wp_exit ?_
  (try simp only [Exit.then, Exit.inBlock, ↓reduceIte, Nat.reduceEqDiff])
  refine hK15 _ _ ?_
  (try clear hK15 K15)
  refine wp_seq_k ?_
  intro K71 hK71
  refine wrt [.p 0, .p 1, .p 2] ?_
  refine pm (pa (pka 0 ?_));simp only [nf]
  refine plan_nil hH ?_
  clear hH
  intro w72 hH
  refine hK71 _ _ ?_
  (try clear hK71 K71)
  refine wp_ret ?_
  (try simp only [Exit.then, Exit.inBlock, ↓reduceIte, Nat.reduceEqDiff])
  refine BP.ret2 rfl rfl rfl ?_
  obtain rfl : k = 10 := by omega
  refine ⟨b7, rfl, hH.chg, (hH.mine 0 rfl).resolve_right (by simp), (hH.say 0 rfl (arr8_congr fun i hi => ?_)).blk 0 rfl⟩
  exact if_pos (by omega)
theorem block_calls (bc : Nat) (kf : Nat → UInt8) (b : Value) (l : List UInt8) (w : World) (hc : Blk w bc 163 (arr8 176 kf)) (hb : Sl w b l) (hl : l.length = 16) :
    Ret Tryd.prog 60 #[PT bc 0, b] w fun v w' => ∃ nb, v = .tuple #[.slice (some ⟨nb, 0, none⟩) 16 16, I64 (0 : Nat)] ∧ Chg [] w w' ∧ w.heap.size ≤ nb ∧ Blk w' nb 130 (arr8 16 (aesR kf (fun i => l.getD i 0) 10)) := by
 refine Ret.enter Tryd.func60 rfl ?_
 simp only [Tryd.ntmps60, fe, Nat.reduceAdd, Nat.reduceSub]
 have hH := Hp.start [] w
 refine wp_seq_k ?_
 intro K1 hK1
 refine wrt [.p 0, .p 1] ?_
 refine pa (pka 0 ?_);simp only [nf]
 refine plan_nil hH ?_
 clear hH
 intro w2 hH
 refine hK1 _ _ ?_
 (try clear hK1 K1)
 refine wp_seq_k ?_
 intro K3 hK3
 refine wp_seq_k ?_
 intro K4 hK4
 refine wrt [.p 0, .p 1, .p 2, .p 3, .p 4, .p 5, .p 6] ?_
 refine pm ?_;simp only [nf]
 refine pp rfl rfl (pr_bin rfl rfl (bin_eql_pn Tryd.underlying123)) ?_;simp only [nf]
 refine plan_p (v := BV false) rfl rfl (pr_move_v rfl) ?_
 (try simp only [nf])
 refine pp rfl rfl pr_move ?_;simp only [nf]
 refine pp rfl rfl (pr_len_Sl (hb.chg hH.chg) rfl Tryd.underlying29) ?_;simp only [nf]
 refine pp rfl rfl (pr_bin rfl rfl (by first | exact bin_neq_n (n := 16)  | exact bin_neq_i)) ?_;simp only [nf]
 refine pp rfl rfl (pr_pick_f rfl) ?_;simp only [nf]
 refine plan_nil hH ?_
 clear hH
 intro w5 hH
 refine hK4 _ _ ?_
 (try clear hK4 K4)
 refine wp_cond_false (by show BV _ = _; rw [hl]; rfl) ?_
 refine wp_skip ?_
 refine hK3 _ _ ?_
 (try clear hK3 K3)
 refine wp_seq_k ?_
 intro K6 hK6
 refine wrt [.p 0, .p 1, .p 2, .q 3, .q 4, .x 5, .e 6] ?_
 refine pm (pm ?_);simp only [nf]
 refine pp rfl rfl (pr_s2ap_Sl (hb.chg hH.chg) rfl Tryd.underlying130 (by decide) (by omega)) ?_;simp only [nf]
 refine pq rfl rfl (qr_load_Sl (hb.chg hH.chg) rfl Tryd.underlying130 rfl sz130 (by omega)) ?_;simp only [nf]
 refine pq rfl rfl (qr_call cf90 (fun w' hw => turn_calls _ _ _ w' (hw.nil_blk (hH.chg.nil_blk hc))) rfl) ?_;simp only [nf]
 refine plan_alloc rfl rfl hH zc130 ?_
 clear hH
 intro b7 w8 hH
 (try simp only [nf, nh, Value.cells] at hH ⊢)
 refine plan_storeW 0 rfl rfl hH rfl rfl rfl one_arr8 sz130 (by simp) (by simp) ?_
 clear hH
 intro w9 hH
 (try simp only [nf, nh, Value.cells] at hH ⊢)
 refine plan_nil hH ?_
 clear hH
 intro w10 hH
 refine hK6 _ _ ?_
 (try clear hK6 K6)
 refine wp_seq_k ?_
 intro K11 hK11
 refine wrt [.p 0, .p 1, .p 2] ?_
 refine pp rfl rfl (pr_slice_arr_all rfl Tryd.underlying130 sz5) ?_;simp only [nf]
 (try simp only [Nat.mul_one, Nat.zero_add, Nat.add_sub_cancel_left])
 refine pa (pka 0 ?_);simp only [nf]
 refine plan_nil hH ?_
 clear hH
 intro w12 hH
 refine hK11 _ _ ?_
 (try clear hK11 K11)
 refine wp_ret ?_
 (try simp only [Exit.then, Exit.inBlock, ↓reduceIte, Nat.reduceEqDiff])
 refine BP.ret2 rfl rfl rfl ?_
 exact ⟨_, rfl, hH.chg, (hH.mine 0 rfl).resolve_right (by simp), hH.blk 0 rfl⟩
end Go.Proofs.YtdkjdioccpoacaaDoor
set_option linter.unusedSimpArgs false
set_option linter.unusedVariables false
set_option maxRecDepth 100000
set_option maxHeartbeats 4000000
namespace Go.Proofs.YtdkjdioccpoacaaDoor
open Go
open List (getD_cons_zero getD_cons_succ set_cons_zero set_cons_succ)
theorem cut16 (f : Nat → UInt8) {i : Nat} (hi : i < 16) : ((List.range 16).map fun i => f i).getD i 0 = f i := by
  simp [List.getD, hi]
end Go.Proofs.YtdkjdioccpoacaaDoor
set_option linter.unusedSimpArgs false
set_option linter.unusedVariables false
set_option maxRecDepth 100000
set_option maxHeartbeats 4000000
namespace Go.Proofs.YtdkjdioccpoacaaDoor
open Go
open List (getD_cons_zero getD_cons_succ set_cons_zero set_cons_succ)
def be32 (c : Nat → UInt8) : UInt32 := (c 12).toUInt32 <<< 24 ||| (c 13).toUInt32 <<< 16 ||| (c 14).toUInt32 <<< 8 ||| (c 15).toUInt32
def ctrF (c : Nat → UInt8) (n : UInt32) (i : Nat) : UInt8 :=
  if i = 12 then (n >>> 24).toUInt8 else if i = 13 then (n >>> 16).toUInt8 else if i = 14 then (n >>> 8).toUInt8 else if i = 15 then n.toUInt8 else c i
def ksF (kf c : Nat → UInt8) (p : Nat) : UInt8 := aesR kf (ctrF c (be32 c + UInt32.ofNat (p / 16))) 10 (p % 16)
def strm (kf c : Nat → UInt8) (a : Nat) (l : List UInt8) (n : Nat) : List UInt8 := (List.range n).map fun i => l.getD i 0 ^^^ ksF kf c (a + i)
theorem strm_succ (kf c : Nat → UInt8) (a : Nat) (l : List UInt8) (n : Nat) : strm kf c a l (n + 1) = strm kf c a l n ++ [l.getD n 0 ^^^ ksF kf c (a + n)] := by
  unfold strm; rw [List.range_succ, List.map_append]; rfl
theorem ctr_set (c e : Nat → UInt8) (n : UInt32) (he : ∀ i, i < 12 → e i = c i) : arr8 16 (upd (upd (upd (upd e 12 (n >>> 24).toUInt8) 13 (n >>> 16).toUInt8) 14 (n >>> 8).toUInt8) 15 n.toUInt8) = arr8 16 (ctrF c n) := arr8_congr fun i hi => by
  have h : i < 12 ∨ i = 12 ∨ i = 13 ∨ i = 14 ∨ i = 15 := by omega
  rcases h with h | rfl | rfl | rfl | rfl
  · simp only [upd, ctrF]
    rw [if_neg (by omega), if_neg (by omega), if_neg (by omega), if_neg (by omega), if_neg (by omega), if_neg (by omega), if_neg (by omega), if_neg (by omega), he i h]
  all_goals rfl
theorem ctr_head (c : Nat → UInt8) (n : UInt32) : ∀ i, i < 12 → ctrF c n i = c i := fun i h => by
  unfold ctrF
  rw [if_neg (by omega), if_neg (by omega), if_neg (by omega), if_neg (by omega)]
theorem strm_step {kf c : Nat → UInt8} {a p m j K : Nat} {n : UInt32} {l : List UInt8} (h : p < l.length → m = (a + p) % 16 ∧ n = be32 c + UInt32.ofNat ((a + p) / 16)) (hK : K ≤ 16 - m) (hK' : K ≤ (l.drop p).length) (hj : j < ((l.drop p).take K).length) :
    strm kf c a l (p + j) ++ [((l.drop p).take K).getD j 0 ^^^ aesR kf (ctrF c n) 10 (m + j)] = strm kf c a l (p + (j + 1)) := by
  rw [← Nat.add_assoc, strm_succ]
  simp only [List.length_take, List.length_drop] at hj hK'
  obtain ⟨rfl, rfl⟩ := h (by omega)
  have e : ((l.drop p).take K).getD j 0 = l.getD (p + j) 0 := by
    simp only [List.getD, List.getElem?_take, List.getElem?_drop]
    rw [if_pos (by omega)]
  unfold ksF
  rw [e, show (a + (p + j)) / 16 = (a + p) / 16 by omega, show (a + (p + j)) % 16 = (a + p) % 16 + j by omega]
theorem strm_next {c : Nat → UInt8} {a p m K : Nat} {n : UInt32} {l : List UInt8} (h : p < l.length → m = (a + p) % 16 ∧ n = be32 c + UInt32.ofNat ((a + p) / 16)) (hK : K = min (16 - m) (l.drop p).length) (hm : m < 16) (h' : p + K < l.length) :
    0 = (a + (p + K)) % 16 ∧ n + 1 = be32 c + UInt32.ofNat ((a + (p + K)) / 16) := by
  rw [List.length_drop] at hK
  obtain ⟨rfl, rfl⟩ := h (by omega)
  refine ⟨by omega, ?_⟩
  rw [show (a + (p + K)) / 16 = (a + p) / 16 + 1 by omega, UInt32.add_assoc, UInt32.ofNat_add]; rfl
theorem stream_calls (bc : Nat) (kf cf : Nat → UInt8) (c : Value) (cl : List UInt8) (a : Nat) (b : Value) (l : List UInt8) (w : World) (hc : Blk w bc 163 (arr8 176 kf)) (hcl : Sl w c cl) (hl : cl.length = 16) (hcf : ∀ i, i < 16 → cl.getD i 0 = cf i) (hb : Sl w b l) (ha : a < 9223372036854775808) (hbl : l.length ≤ 140737488355328) :
    Ret Tryd.prog 62 #[PT bc 0, c, I64 (a : Nat), b] w fun v w' => ∃ o cap cs, v = .tuple #[own o l.length cap, I64 (0 : Nat)] ∧ Chg [] w w' ∧ OwnC o l.length cap 1 cs ((strm kf cf a l l.length).map V8) ∧ ∀ bo, o = some bo → w.heap.size ≤ bo ∧ Blk w' bo 5 cs := by
 refine Ret.enter Tryd.func62 rfl ?_
 simp only [Tryd.ntmps62, fe, Nat.reduceAdd, Nat.reduceSub]
 have hH := Hp.start [] w
 refine wp_seq_k ?_
 intro K1 hK1
 refine wrt [.p 0, .p 1] ?_
 refine pa (pka 0 ?_);simp only [nf]
 refine plan_nil hH ?_
 clear hH
 intro w2 hH
 refine hK1 _ _ ?_
 (try clear hK1 K1)
 refine wp_seq_k ?_
 intro K3 hK3
 refine wp_seq_k ?_
 intro K4 hK4
 refine wrt [.p 0, .p 1, .p 2, .p 3, .p 4, .p 5, .p 6, .p 7, .p 8, .p 9, .p 10] ?_
 refine pm ?_;simp only [nf]
 refine pp rfl rfl (pr_bin rfl rfl (bin_eql_pn Tryd.underlying123)) ?_;simp only [nf]
 refine plan_p (v := BV false) rfl rfl (pr_move_v rfl) ?_
 (try simp only [nf])
 refine pp rfl rfl pr_move ?_;simp only [nf]
 refine pp rfl rfl (pr_len_Sl (hcl.chg hH.chg) rfl Tryd.underlying29) ?_;simp only [nf]
 refine pp rfl rfl (pr_bin rfl rfl (by first | exact bin_neq_n (n := 16)  | exact bin_neq_i)) ?_;simp only [nf]
 refine pp rfl rfl (pr_pick_f rfl) ?_;simp only [nf]
 refine plan_p (v := BV false) rfl rfl (pr_move_v (by show BV _ = _; rw [hl]; rfl)) ?_
 (try simp only [nf])
 refine pp rfl rfl pr_move ?_;simp only [nf]
 refine pp rfl rfl (pr_bin rfl rfl (by first | exact bin_lss_n (n := 0)  | exact bin_lss_i)) ?_;simp only [nf]
 refine pp rfl rfl (pr_pick_f rfl) ?_;simp only [nf]
 refine plan_nil hH ?_
 clear hH
 intro w5 hH
 refine hK4 _ _ ?_
 (try clear hK4 K4)
 refine wp_cond_false (by show BV _ = _; exact congrArg BV (decide_eq_false (by omega))) ?_
 refine wp_skip ?_
 refine hK3 _ _ ?_
 (try clear hK3 K3)
 refine wp_seq_k ?_
 intro K6 hK6
 refine wrt [.p 0, .p 1, .q 2, .x 3, .e 4] ?_
 refine pm ?_;simp only [nf]
 refine pp rfl rfl (pr_s2ap_Sl (hcl.chg hH.chg) rfl Tryd.underlying130 (by decide) (by first | omega | (simp only [List.length_take, List.length_drop, List.length_cons, List.length_nil] at *; omega))) ?_;simp only [nf]
 refine pq rfl rfl (qr_load_Sl (hcl.chg hH.chg) rfl Tryd.underlying130 rfl sz130 (by first | omega | (simp only [List.length_take, List.length_drop, List.length_cons, List.length_nil] at *; omega))) ?_;simp only [nf]
 refine plan_alloc rfl rfl hH zc130 ?_
 clear hH
 intro b7 w8 hH
 (try simp only [nf, nh, Value.cells] at hH ⊢)
 refine plan_storeW 0 rfl rfl hH rfl rfl rfl one_arr8 sz130 (by simp) (by simp) ?_
 clear hH
 intro w9 hH
 (try simp only [nf, nh, Value.cells] at hH ⊢)
 refine plan_nil hH ?_
 clear hH
 intro w10 hH
 refine hK6 _ _ ?_
 (try clear hK6 K6)
 refine wp_seq_k ?_
 intro K11 hK11
 refine wrt [.p 0, .q 1, .p 2, .p 3, .p 4, .q 5, .p 6, .p 7, .p 8, .p 9, .q 10, .p 11, .p 12, .p 13, .p 14, .q 15, .p 16, .p 17, .p 18] ?_
 refine pp rfl rfl (pr_idxA1 (i := 12) rfl rfl Tryd.underlying130 sz5 (by first | omega | (simp only [List.length_take, List.length_drop, List.length_cons, List.length_nil] at *; omega))) ?_;simp only [nf]
 refine pq rfl rfl (qr_load1 rfl Tryd.underlying5 rfl ((hH.blk 0 rfl).cell (arr8_get (by first | omega | (simp only [List.length_take, List.length_drop, List.length_cons, List.length_nil] at *; omega))))) ?_;simp only [nf]
 refine pp rfl rfl (pr_conv rfl (cnv_u8_u32 _ Tryd.underlying5 Tryd.underlying117)) ?_;simp only [nf]
 refine pp rfl rfl (pr_bin rfl rfl (bin_shlc_u32 24 24 (by decide) rfl _)) ?_;simp only [nf]
 refine pp rfl rfl (pr_idxA1 (i := 13) rfl rfl Tryd.underlying130 sz5 (by first | omega | (simp only [List.length_take, List.length_drop, List.length_cons, List.length_nil] at *; omega))) ?_;simp only [nf]
 refine pq rfl rfl (qr_load1 rfl Tryd.underlying5 rfl ((hH.blk 0 rfl).cell (arr8_get (by first | omega | (simp only [List.length_take, List.length_drop, List.length_cons, List.length_nil] at *; omega))))) ?_;simp only [nf]
 refine pp rfl rfl (pr_conv rfl (cnv_u8_u32 _ Tryd.underlying5 Tryd.underlying117)) ?_;simp only [nf]
 refine pp rfl rfl (pr_bin rfl rfl (bin_shlc_u32 16 16 (by decide) rfl _)) ?_;simp only [nf]
 refine pp rfl rfl (pr_bin rfl rfl (bin_or_u32 _ _)) ?_;simp only [nf]
 refine pp rfl rfl (pr_idxA1 (i := 14) rfl rfl Tryd.underlying130 sz5 (by first | omega | (simp only [List.length_take, List.length_drop, List.length_cons, List.length_nil] at *; omega))) ?_;simp only [nf]
 refine pq rfl rfl (qr_load1 rfl Tryd.underlying5 rfl ((hH.blk 0 rfl).cell (arr8_get (by first | omega | (simp only [List.length_take, List.length_drop, List.length_cons, List.length_nil] at *; omega))))) ?_;simp only [nf]
 refine pp rfl rfl (pr_conv rfl (cnv_u8_u32 _ Tryd.underlying5 Tryd.underlying117)) ?_;simp only [nf]
 refine pp rfl rfl (pr_bin rfl rfl (bin_shlc_u32 8 8 (by decide) rfl _)) ?_;simp only [nf]
 refine pp rfl rfl (pr_bin rfl rfl (bin_or_u32 _ _)) ?_;simp only [nf]
 refine pp rfl rfl (pr_idxA1 (i := 15) rfl rfl Tryd.underlying130 sz5 (by first | omega | (simp only [List.length_take, List.length_drop, List.length_cons, List.length_nil] at *; omega))) ?_;simp only [nf]
 refine pq rfl rfl (qr_load1 rfl Tryd.underlying5 rfl ((hH.blk 0 rfl).cell (arr8_get (by first | omega | (simp only [List.length_take, List.length_drop, List.length_cons, List.length_nil] at *; omega))))) ?_;simp only [nf]
 refine pp rfl rfl (pr_conv rfl (cnv_u8_u32 _ Tryd.underlying5 Tryd.underlying117)) ?_;simp only [nf]
 refine pp rfl rfl (pr_bin rfl rfl (bin_or_u32 _ _)) ?_;simp only [nf]
 refine pa ?_;simp only [nf]
 refine plan_nil hH ?_
 clear hH
 intro w12 hH
 refine hK11 _ _ ?_
 (try clear hK11 K11)
 refine wp_seq_k ?_
 intro K13 hK13
 refine wrt [.p 0, .p 1, .p 2, .p 3, .p 4, .p 5] ?_
 refine pm (pm ?_);simp only [nf]
 refine pp rfl rfl (pr_bin rfl rfl (by first | exact bin_quo_n (n := 16) (by first | omega | (simp only [List.length_take, List.length_drop, List.length_cons, List.length_nil] at *; omega)) (by first | omega | (simp only [List.length_take, List.length_drop, List.length_cons, List.length_nil] at *; omega)))) ?_;simp only [nf]
 refine pp rfl rfl (pr_conv rfl (by first | exact cnv_n_u32 Tryd.underlying3 Tryd.underlying117 | exact cnv_i_u32 Tryd.underlying3 Tryd.underlying117)) ?_;simp only [nf]
 refine pp rfl rfl (pr_bin rfl rfl (bin_add_u32 _ _)) ?_;simp only [nf]
 refine pa ?_;simp only [nf]
 refine plan_nil hH ?_
 clear hH
 intro w14 hH
 refine hK13 _ _ ?_
 (try clear hK13 K13)
 refine wp_seq_k ?_
 intro K15 hK15
 refine wrt [.p 0, .p 1, .p 2] ?_
 refine pm ?_;simp only [nf]
 refine pp rfl rfl (pr_bin rfl rfl (by first | exact bin_rem_n (n := 16) (by first | omega | (simp only [List.length_take, List.length_drop, List.length_cons, List.length_nil] at *; omega)))) ?_;simp only [nf]
 refine pa ?_;simp only [nf]
 refine plan_nil hH ?_
 clear hH
 intro w16 hH
 refine hK15 _ _ ?_
 (try clear hK15 K15)
 refine wp_seq_k ?_
 intro K17 hK17
 refine wrt [.p 0, .p 1, .x 2, .p 3] ?_
 refine pm ?_;simp only [nf]
 refine pp rfl rfl (pr_len_Sl (hb.chg hH.chg) rfl Tryd.underlying29) ?_;simp only [nf]
 refine plan_make (n := 0) rfl rfl hH rfl rfl Tryd.underlying29 sz5 bz5 ze5 rfl (by first | omega | (simp only [List.length_take, List.length_drop, List.length_cons, List.length_nil] at *; omega)) (by first | omega | (simp only [List.length_take, List.length_drop, List.length_cons, List.length_nil] at *; omega)) (by first | omega | (simp only [List.length_take, List.length_drop, List.length_cons, List.length_nil] at *; omega)) ?_
 clear hH
 intro b18 w19 hH
 (try simp only [nf] at hH ⊢)
 rw [made_arr8] at hH
 (try simp only [nf, nh, Value.cells] at hH ⊢)
 refine pa ?_;simp only [nf]
 refine plan_nil hH ?_
 clear hH
 intro w20 hH
 refine hK17 _ _ ?_
 (try clear hK17 K17)
 refine wp_seq_k ?_
 intro K21 hK21
 refine wp_block ?_
 refine wp_loopT [2, 3, 11, 12] [13, 14, 15, 16, 59, 60, 61, 62, 63, 64, 65, 66, 67, 68, 69, 70, 71, 72, 73, 74, 75, 76, 77, 78, 79, 80, 81, 82, 83, 84, 85, 86, 87, 88, 89, 90, 91, 92, 93, 94, 95, 96, 97, 98, 99, 100, 101, 102, 103, 104, 105, 106, 107, 108, 109] (fun (n22 : Nat) (vs : List Value) (w' : World) => ∃ (p m : Nat) (n : UInt32) (e : Nat → UInt8) (bv : Value) (o : Option Nat) (cap : Nat) (cs : Array Value), vs = [I64 (m : Nat), bv, V32 n, own o p cap] ∧ Hp [] w w' [(some b7, 130, arr8 16 e), (o, 5, cs)] ∧ n22 = l.length - p ∧ p ≤ l.length ∧ m < 16 ∧ Sl w bv (l.drop p) ∧ OwnC o p cap 1 cs ((strm kf cf a l p).map V8) ∧ (p < l.length → m = (a + p) % 16 ∧ n = be32 cf + UInt32.ofNat ((a + p) / 16)) ∧ (∀ i, i < 12 → e i = cf i)) (l.length - 0) (by kernel_rfl) ?_ ?_
 ·
  simp only [ga]
  refine ⟨0, _, _, fun i => cl.getD i 0, _, _, _, arr8 l.length fun _ => 0, rfl, ?_, rfl, ?_, ?_, ?_, ?_, ?_, ?_⟩
  ·
   exact hH
  · first | omega | (omega)
  · first | omega | (omega)
  · first | omega | (exact hb)
  · first | omega | (exact OwnC.made0 (by simp))
  · first | omega | (intro _; unfold be32; rw [← hcf 12 (by omega), ← hcf 13 (by omega), ← hcf 14 (by omega), ← hcf 15 (by omega)]; exact ⟨rfl, rfl⟩)
  · first | omega | (exact fun i hi => hcf i (by omega))
 clear hH
 intro n22 vs23 w24 hR25 d0
 obtain ⟨p, m, n, e, bv, o, cap, cs, rfl, hH, hn26, hf27, hf28, hbv, hO, hpn, he⟩ := hR25
 simp only [putAll, putD, List.set_cons_zero, List.set_cons_succ, Nat.zero_add, Nat.reduceAdd]
 refine wp_seq_k ?_
 intro K29 hK29
 refine wp_seq_k ?_
 intro K30 hK30
 refine wrt [.p 0, .p 1, .p 2] ?_
 refine pm ?_;simp only [nf]
 refine pp rfl rfl (pr_len_Sl (hbv.chg hH.chg) rfl Tryd.underlying29) ?_;simp only [nf]
 refine pp rfl rfl (pr_bin rfl rfl (by first | exact bin_gtr_n (n := 0)  | exact bin_gtr_i)) ?_;simp only [nf]
 refine plan_nil hH ?_
 clear hH
 intro w31 hH
 refine hK30 _ _ ?_
 (try clear hK30 K30)
 refine wp_cond_split rfl (fun hc32 => ?_) (fun hc32 => ?_)
 ·
  (try simp only [cnd] at hc32)
  refine wp_skip ?_
  refine hK29 _ _ ?_
  (try clear hK29 K29)
  refine wp_block ?_
  refine wp_seq_k ?_
  intro K33 hK33
  refine wrt [.p 0, .p 1, .p 2, .p 3, .p 4, .p 5, .p 6, .p 7, .p 8, .p 9, .p 10, .p 11, .e 12, .p 13, .e 14, .p 15, .e 16, .p 17, .e 18] ?_
  refine pm ?_;simp only [nf]
  refine pp rfl rfl (pr_bin rfl rfl (bin_shrc_u32 24 24 (by decide) rfl _)) ?_;simp only [nf]
  refine pp rfl rfl (pr_conv rfl (cnv_u32_u8 _ Tryd.underlying117 Tryd.underlying5)) ?_;simp only [nf]
  refine pm ?_;simp only [nf]
  refine pp rfl rfl (pr_bin rfl rfl (bin_shrc_u32 16 16 (by decide) rfl _)) ?_;simp only [nf]
  refine pp rfl rfl (pr_conv rfl (cnv_u32_u8 _ Tryd.underlying117 Tryd.underlying5)) ?_;simp only [nf]
  refine pm ?_;simp only [nf]
  refine pp rfl rfl (pr_bin rfl rfl (bin_shrc_u32 8 8 (by decide) rfl _)) ?_;simp only [nf]
  refine pp rfl rfl (pr_conv rfl (cnv_u32_u8 _ Tryd.underlying117 Tryd.underlying5)) ?_;simp only [nf]
  refine pm ?_;simp only [nf]
  refine pp rfl rfl (pr_conv rfl (cnv_u32_u8 _ Tryd.underlying117 Tryd.underlying5)) ?_;simp only [nf]
  refine pp rfl rfl (pr_idxA1 (i := 12) rfl rfl Tryd.underlying130 sz5 (by first | omega | (simp only [List.length_take, List.length_drop, List.length_cons, List.length_nil] at *; omega))) ?_;simp only [nf]
  refine plan_store1 0 rfl rfl hH rfl rfl rfl rfl sz5 (by simp <;> omega) ?_
  clear hH
  intro w34 hH
  (try simp only [nf, nh, Value.cells] at hH ⊢)
  refine pp rfl rfl (pr_idxA1 (i := 13) rfl rfl Tryd.underlying130 sz5 (by first | omega | (simp only [List.length_take, List.length_drop, List.length_cons, List.length_nil] at *; omega))) ?_;simp only [nf]
  refine plan_store1 0 rfl rfl hH rfl rfl rfl rfl sz5 (by simp <;> omega) ?_
  clear hH
  intro w35 hH
  (try simp only [nf, nh, Value.cells] at hH ⊢)
  refine pp rfl rfl (pr_idxA1 (i := 14) rfl rfl Tryd.underlying130 sz5 (by first | omega | (simp only [List.length_take, List.length_drop, List.length_cons, List.length_nil] at *; omega))) ?_;simp only [nf]
  refine plan_store1 0 rfl rfl hH rfl rfl rfl rfl sz5 (by simp <;> omega) ?_
  clear hH
  intro w36 hH
  (try simp only [nf, nh, Value.cells] at hH ⊢)
  refine pp rfl rfl (pr_idxA1 (i := 15) rfl rfl Tryd.underlying130 sz5 (by first | omega | (simp only [List.length_take, List.length_drop, List.length_cons, List.length_nil] at *; omega))) ?_;simp only [nf]
  refine plan_store1 0 rfl rfl hH rfl rfl rfl rfl sz5 (by simp <;> omega) ?_
  clear hH
  intro w37 hH
  (try simp only [nf, nh, Value.cells] at hH ⊢)
  refine plan_nil hH ?_
  clear hH
  intro w38 hH
  replace hH := hH.say 0 rfl (ctr_set cf e n he)
  simp only [List.set_cons_zero] at hH
  refine hK33 _ _ ?_
  (try clear hK33 K33)
  refine wp_seq_k ?_
  intro K39 hK39
  refine wrt [.p 0, .q 1, .q 2, .x 3, .e 4] ?_
  refine pm ?_;simp only [nf]
  refine pq rfl rfl (qr_loadW rfl (hH.blk 0 rfl) Tryd.underlying130 rfl sz130 (by simp)) ?_;simp only [nf]
  refine pq rfl rfl (qr_call cf90 (fun w' hw => turn_calls _ _ _ w' (hw.nil_blk (hH.chg.nil_blk hc))) rfl) ?_;simp only [nf]
  refine plan_alloc rfl rfl hH zc130 ?_
  clear hH
  intro b40 w41 hH
  (try simp only [nf, nh, Value.cells] at hH ⊢)
  refine plan_storeW 2 rfl rfl hH rfl rfl rfl one_arr8 sz130 (by simp) (by simp) ?_
  clear hH
  intro w42 hH
  (try simp only [nf, nh, Value.cells] at hH ⊢)
  refine plan_nil hH ?_
  clear hH
  intro w43 hH
  refine hK39 _ _ ?_
  (try clear hK39 K39)
  refine wp_seq_k ?_
  intro K44 hK44
  refine wrt [.p 0, .p 1, .p 2, .p 3, .p 4, .p 5] ?_
  refine pm ?_;simp only [nf]
  refine pp rfl rfl (pr_bin rfl rfl (by first | exact bin_sub_n (m := 16) (by first | omega | (simp only [List.length_take, List.length_drop, List.length_cons, List.length_nil] at *; omega)) (by first | omega | (simp only [List.length_take, List.length_drop, List.length_cons, List.length_nil] at *; omega)) | exact bin_sub_i (by first | omega | (simp only [List.length_take, List.length_drop, List.length_cons, List.length_nil] at *; omega)) (by first | omega | (simp only [List.length_take, List.length_drop, List.length_cons, List.length_nil] at *; omega)))) ?_;simp only [nf]
  refine pm ?_;simp only [nf]
  refine pp rfl rfl (pr_len_Sl (hbv.chg hH.chg) rfl Tryd.underlying29) ?_;simp only [nf]
  refine pp rfl rfl (by first | exact pr_min_n rfl rfl | exact pr_min rfl rfl) ?_;simp only [nf]
  refine pa ?_;simp only [nf]
  refine plan_nil hH ?_
  clear hH
  intro w45 hH
  refine hK44 _ _ ?_
  (try clear hK44 K44)
  refine wp_seq_k ?_
  intro K46 hK46
  refine wp_seq_k ?_
  intro K47 hK47
  refine wrt [.p 0, .p 1, .p 2, .p 3, .p 4] ?_
  refine pm (pm ?_);simp only [nf]
  refine pp rfl rfl (pr_slice_Sl_h (hbv.chg hH.chg) rfl rfl Tryd.underlying29 sz5 (by first | omega | (simp only [List.length_take, List.length_drop, List.length_cons, List.length_nil] at *; omega))) ?_;simp only [nf]
  refine pp rfl rfl (pr_len_Sl (Sl.cuth (hbv.chg hH.chg) (by first | omega | (simp only [List.length_take, List.length_drop, List.length_cons, List.length_nil] at *; omega))) rfl Tryd.underlying29) ?_;simp only [nf]
  refine pk 0 ?_;simp only [nf]
  refine plan_nil hH ?_
  clear hH
  intro w48 hH
  refine hK47 _ _ ?_
  (try clear hK47 K47)
  refine wp_block ?_
  refine wp_loopT [12, 89] [15, 16, 90, 91, 92, 93, 94, 95, 96, 97, 98, 99, 100, 101, 102, 103, 104] (fun (n49 : Nat) (vs : List Value) (w' : World) => ∃ (j : Nat) (o : Option Nat) (cap : Nat) (cs : Array Value), vs = [own o (p + j) cap, I64 (j : Nat)] ∧ Hp [] w w' [(some b7, 130, arr8 16 (ctrF cf n)), (o, 5, cs), (some b40, 130, arr8 16 (aesR kf (ctrF cf n) 10))] ∧ n49 = l.length - p - j ∧ j ≤ ((l.drop p).take (min (16 - m) (l.drop p).length)).length ∧ OwnC o (p + j) cap 1 cs ((strm kf cf a l (p + j)).map V8)) (l.length - p - 0) (by kernel_rfl) ?_ ?_
  ·
   simp only [ga]
   refine ⟨0, o, cap, cs, rfl, ?_, rfl, ?_, ?_⟩
   ·
    exact hH
   · first | omega | (omega)
   · first | omega | (exact hO)
  clear hH
  intro n49 vs50 w51 hR52 d1
  obtain ⟨j, o, cap, cs, rfl, hH, hn53, hf54, hO⟩ := hR52
  simp only [putAll, putD, List.set_cons_zero, List.set_cons_succ, Nat.zero_add, Nat.reduceAdd]
  refine wp_seq_k ?_
  intro K55 hK55
  refine wrt [.p 0] ?_
  refine pp rfl rfl (pr_bin rfl rfl (by first | exact bin_lss_n  | exact bin_lss_i)) ?_;simp only [nf]
  refine plan_nil hH ?_
  clear hH
  intro w56 hH
  refine hK55 _ _ ?_
  (try clear hK55 K55)
  refine wp_seq_k ?_
  intro K57 hK57
  refine wp_cond_split rfl (fun hc58 => ?_) (fun hc58 => ?_)
  ·
   (try simp only [cnd] at hc58)
   refine wp_skip ?_
   refine hK57 _ _ ?_
   (try clear hK57 K57)
   refine wp_seq_k ?_
   intro K59 hK59
   refine wp_block ?_
   refine wp_seq_k ?_
   intro K60 hK60
   refine wrt [.p 0, .p 1, .q 2, .p 3, .p 4] ?_
   refine pm ?_;simp only [nf]
   refine pp rfl rfl (pr_idx_Sl (Sl.cuth (hbv.chg hH.chg) (by first | omega | (simp only [List.length_take, List.length_drop, List.length_cons, List.length_nil] at *; omega))) rfl rfl Tryd.underlying29 sz5 (by first | omega | (simp only [List.length_take, List.length_drop, List.length_cons, List.length_nil] at *; omega))) ?_;simp only [nf]
   refine pq rfl rfl (qr_load1 rfl Tryd.underlying5 rfl (Sl.cell (Sl.cuth (hbv.chg hH.chg) (by first | omega | (simp only [List.length_take, List.length_drop, List.length_cons, List.length_nil] at *; omega))) (by first | omega | (simp only [List.length_take, List.length_drop, List.length_cons, List.length_nil] at *; omega)))) ?_;simp only [nf]
   refine pa (pa ?_);simp only [nf]
   refine plan_nil hH ?_
   clear hH
   intro w61 hH
   refine hK60 _ _ ?_
   (try clear hK60 K60)
   refine wrt [.p 0, .p 1, .p 2, .p 3, .p 4, .p 5, .q 6, .p 7, .x 8, .e 9, .p 10] ?_
   refine pm (pm (pm (pm ?_)));simp only [nf]
   refine pp rfl rfl (pr_bin rfl rfl (by first | exact bin_add_n (by first | omega | (simp only [List.length_take, List.length_drop, List.length_cons, List.length_nil] at *; omega)) | exact bin_add_i (by first | omega | (simp only [List.length_take, List.length_drop, List.length_cons, List.length_nil] at *; omega)) (by first | omega | (simp only [List.length_take, List.length_drop, List.length_cons, List.length_nil] at *; omega)))) ?_;simp only [nf]
   refine pp rfl rfl (pr_idxA1 rfl rfl Tryd.underlying130 sz5 (by first | omega | (simp only [List.length_take, List.length_drop, List.length_cons, List.length_nil] at *; omega))) ?_;simp only [nf]
   refine pq rfl rfl (qr_load1 rfl Tryd.underlying5 rfl ((hH.blk 2 rfl).cell (arr8_get (by first | omega | (simp only [List.length_take, List.length_drop, List.length_cons, List.length_nil] at *; omega))))) ?_;simp only [nf]
   refine pp rfl rfl (pr_bin rfl rfl (bin_xor_u8 _ _)) ?_;simp only [nf]
   refine plan_buildSlice rfl rfl hH Tryd.underlying29 (by rfl) (bs1 _) ?_
   clear hH
   intro b62 w63 hH
   (try simp only [nf, nh, Value.cells] at hH ⊢)
   refine plan_append 1 rfl rfl hH rfl hO (fun w' hH => ((OwnC.sl hH 3 rfl (OwnC.of_bytes rfl))).src) rfl rfl Tryd.underlying29 Tryd.underlying29 (.inl ⟨_, rfl⟩) sz5 bz5 ze5 rfl (by simp only [List.length_take, List.length_drop, List.length_cons, List.length_nil] at *; omega) (by simp only [List.length_take, List.length_drop, List.length_cons, List.length_nil] at *; omega) ?_
   clear hH
   intro o64 cap65 cs66 w67 hO68 hH
   (try simp only [nf] at hH ⊢)
   (try simp only [nf, nh, Value.cells] at hH ⊢)
   try rw [← List.map_append] at hO68
   (try simp only [Nat.zero_add, List.nil_append, List.length_nil] at hO68 ⊢)
   refine pa ?_;simp only [nf]
   refine plan_nil hH ?_
   clear hH
   intro w69 hH
   refine hK59 _ _ ?_
   (try clear hK59 K59)
   refine wrt [.p 0, .p 1] ?_
   refine pp rfl rfl (pr_bin rfl rfl (by first | exact bin_add_n (n := 1) (by first | omega | (simp only [List.length_take, List.length_drop, List.length_cons, List.length_nil] at *; omega)) | exact bin_add_i (by first | omega | (simp only [List.length_take, List.length_drop, List.length_cons, List.length_nil] at *; omega)) (by first | omega | (simp only [List.length_take, List.length_drop, List.length_cons, List.length_nil] at *; omega)))) ?_;simp only [nf]
   refine pm ?_;simp only [nf]
   refine plan_nil hH ?_
   clear hH
   intro w70 hH
   (try simp only [Exit.then, Exit.inBlock, ↓reduceIte, Nat.reduceEqDiff])
   refine ⟨l.length - p - (j + 1), ?_, _, rfl, by kernel_rfl, ?_⟩
   · first | omega | (simp only [List.length_take, List.length_drop] at *; omega)
   simp only [ga]
   refine ⟨j + 1, o64, cap65, cs66, rfl, ?_, rfl, ?_, ?_⟩
   ·
    exact hH.take 3
   · first | omega | (omega)
   · first | omega | (rw [← strm_step hpn (Nat.min_le_left _ _) (Nat.min_le_right _ _) (by assumption)]; exact hO68)
  ·
   (try simp only [cnd] at hc58)
   obtain rfl : j = min (16 - m) (l.drop p).length := by simp only [List.length_take, List.length_drop] at *; omega
   refine wp_exit ?_
   (try simp only [Exit.then, Exit.inBlock, ↓reduceIte, Nat.reduceEqDiff])
   refine hK46 _ _ ?_
   (try clear hK46 K46)
   refine wp_seq_k ?_
   intro K71 hK71
   refine wrt [.p 0, .p 1, .p 2, .p 3, .p 4] ?_
   refine pm (pm ?_);simp only [nf]
   refine pp rfl rfl (pr_slice_Sl_l (hbv.chg hH.chg) rfl rfl Tryd.underlying29 sz5 (by first | omega | (simp only [List.length_take, List.length_drop, List.length_cons, List.length_nil] at *; omega))) ?_;simp only [nf]
   refine pa (pka 0 ?_);simp only [nf]
   refine plan_nil hH ?_
   clear hH
   intro w72 hH
   refine hK71 _ _ ?_
   (try clear hK71 K71)
   refine wrt [.p 0, .p 1, .p 2] ?_
   refine pm ?_;simp only [nf]
   refine pp rfl rfl (pr_bin rfl rfl (bin_add_u32 _ 1)) ?_;simp only [nf]
   refine pa ?_;simp only [nf]
   refine plan_nil hH ?_
   clear hH
   intro w73 hH
   (try simp only [Exit.then, Exit.inBlock, ↓reduceIte, Nat.reduceEqDiff])
   refine ⟨l.length - (p + min (16 - m) (l.drop p).length), ?_, _, rfl, by kernel_rfl, ?_⟩
   · first | omega | (simp only [List.length_drop] at *; omega)
   simp only [ga]
   refine ⟨p + min (16 - m) (l.drop p).length, 0, n + 1, ctrF cf n, _, o, cap, cs, rfl, ?_, rfl, ?_, ?_, ?_, ?_, ?_, ?_⟩
   ·
    exact hH.take 2
   · first | omega | (simp only [List.length_drop] at *; omega)
   · first | omega | (simp only [List.length_drop] at *; omega)
   · first | omega | (have := Sl.cutl hbv (lo := min (16 - m) (l.drop p).length) (by omega); rwa [List.drop_drop] at this)
   · first | omega | (exact hO)
   · first | omega | (exact strm_next hpn rfl (by omega))
   · first | omega | (exact ctr_head cf n)
 ·
  (try simp only [cnd] at hc32)
  refine wp_exit ?_
  (try simp only [Exit.then, Exit.inBlock, ↓reduceIte, Nat.reduceEqDiff])
  refine hK21 _ _ ?_
  (try clear hK21 K21)
  refine wp_seq_k ?_
  intro K74 hK74
  refine wrt [.p 0, .p 1, .p 2] ?_
  refine pm (pa (pka 0 ?_));simp only [nf]
  refine plan_nil hH ?_
  clear hH
  intro w75 hH
  refine hK74 _ _ ?_
  (try clear hK74 K74)
  refine wp_ret ?_
  (try simp only [Exit.then, Exit.inBlock, ↓reduceIte, Nat.reduceEqDiff])
  refine BP.ret2 rfl rfl rfl ?_
  have hp : p = l.length := by simp only [List.length_drop] at *; omega
  subst hp
  exact ⟨_, _, _, rfl, hH.chg, hO, hH.owned 1 rfl⟩
end Go.Proofs.YtdkjdioccpoacaaDoor
set_option linter.unusedSimpArgs false
set_option linter.unusedVariables false
set_option maxRecDepth 100000
set_option maxHeartbeats 4000000
namespace Go.Proofs.YtdkjdioccpoacaaDoor
open Go
open List (getD_cons_zero getD_cons_succ set_cons_zero set_cons_succ)
theorem strm_len (K c : Nat → UInt8) (a : Nat) (l : List UInt8) (n : Nat) : (strm K c a l n).length = n := by simp [strm]
theorem strm_at (K c : Nat → UInt8) (a : Nat) (l : List UInt8) {n i : Nat} (h : i < n) : (strm K c a l n).getD i 0 = l.getD i 0 ^^^ ksF K c (a + i) := by
  simp [strm, List.getD, h]
theorem strm_twice (K c : Nat → UInt8) (a : Nat) (l : List UInt8) : strm K c a (strm K c a l l.length) l.length = l := by
  apply List.ext_getElem (by simp [strm])
  intro i h1 h2
  have := strm_at K c a l h2
  simp only [strm, List.getElem_map, List.getElem_range] at this ⊢
  rw [this, UInt8.xor_assoc, UInt8.xor_self, UInt8.xor_zero]
  simp [List.getD, h2]
theorem zeros_getD (n j : Nat) : ((List.range n).map fun _ => (0 : UInt8)).getD j 0 = 0 := by
  simp only [List.getD, List.getElem?_map]
  cases (List.range n)[j]? <;> rfl
theorem take_getD (l : List UInt8) {n i : Nat} (h : i < n) : (l.take n).getD i 0 = l.getD i 0 := by
  simp only [List.getD, List.getElem?_take, h, if_true]
end Go.Proofs.YtdkjdioccpoacaaDoor
set_option linter.unusedSimpArgs false
set_option linter.unusedVariables false
set_option maxRecDepth 100000
set_option maxHeartbeats 4000000
namespace Go.Proofs.YtdkjdioccpoacaaDoor
open Go
open List (getD_cons_zero getD_cons_succ set_cons_zero set_cons_succ)
def shaReg (l : List UInt8) : Nat → Nat → UInt32
  | 0 => shaH
  | k + 1 => shaB (shaReg l k) fun i => l.getD (64 * k + i) 0
theorem shaReg_succ (l : List UInt8) (k : Nat) : shaB (shaReg l k) (fun i => (l.drop (64 * k)).getD i 0) = shaReg l (k + 1) := by
  show _ = shaB (shaReg l k) fun i => l.getD (64 * k + i) 0
  congr 1
  funext i
  simp only [List.getD, List.getElem?_drop]
theorem shaW_congr {p q : Nat → UInt8} (h : ∀ i, i < 64 → p i = q i) : ∀ n, n < 64 → shaW p n = shaW q n := by
  intro n
  induction n using Nat.strongRecOn with
  | ind n ih =>
    intro hn
    by_cases h16 : n < 16
    · rw [shaW_lo _ h16, shaW_lo _ h16]
      unfold shaWord
      rw [h _ (by omega), h _ (by omega), h _ (by omega), h _ (by omega)]
    · rw [shaW_hi _ h16, shaW_hi _ h16, ih _ (by omega) (by omega), ih _ (by omega) (by omega), ih _ (by omega) (by omega), ih _ (by omega) (by omega)]
theorem shaR_congr {r w w' : Nat → UInt32} : ∀ n, (∀ i, i < n → w i = w' i) → shaR r w n = shaR r w' n
  | 0, _ => rfl
  | n + 1, h => by
    unfold shaR
    rw [shaR_congr n fun i hi => h i (by omega), h n (by omega)]
theorem shaB_congr {r : Nat → UInt32} {p q : Nat → UInt8} (h : ∀ i, i < 64 → p i = q i) : shaB r p = shaB r q := by
  unfold shaB
  rw [shaR_congr 64 fun i hi => shaW_congr h i hi]
theorem shaReg_app (l bl : List UInt8) : ∀ k, 64 * k ≤ l.length → shaReg (l ++ bl) k = shaReg l k
  | 0, _ => rfl
  | k + 1, h => by
    unfold shaReg
    rw [shaReg_app l bl k (by omega)]
    refine shaB_congr fun i hi => ?_
    simp only [List.getD, List.getElem?_append]
    rw [if_pos (by omega)]
def restL (l : List UInt8) : List UInt8 := l.drop (64 * (l.length / 64))
def hashC (r : Nat → UInt32) (v : Value) (n : Nat) : Array Value := arr32 8 r ++ #[v, I64 (n : Nat)]
@[simp] theorem hashC_size (r : Nat → UInt32) (v : Value) (n : Nat) : (hashC r v n).size = 10 := by simp [hashC]
theorem hashC_rest {r : Nat → UInt32} {v : Value} {n : Nat} : (hashC r v n)[8]? = some v := by
  unfold hashC
  rw [Array.getElem?_append_right (by simp)]; simp
theorem hashC_n {r : Nat → UInt32} {v : Value} {n : Nat} : (hashC r v n)[9]? = some (I64 (n : Nat)) := by
  unfold hashC
  rw [Array.getElem?_append_right (by simp)]; simp
theorem hashC_r {r : Nat → UInt32} {v : Value} {n i : Nat} (h : i < 8) : (hashC r v n)[i]? = some (V32 (r i)) := by
  unfold hashC
  rw [Array.getElem?_append_left (by simpa using h), arr32_get h]
theorem hashC_ext {r : Nat → UInt32} {v : Value} {n : Nat} : (hashC r v n).extract 0 (0 + 8) = arr32 8 r := by
  refine tabV_ext (by simp) fun i hi => ?_
  rw [Array.getElem?_extract, if_pos (by simp; omega), Nat.zero_add, hashC_r hi]
theorem hashC_eq {cs : Array Value} {r : Nat → UInt32} {v : Value} {n : Nat} (hs : cs.size = 10) (h : ∀ i, i < 8 → cs[i]? = some (V32 (r i))) (h8 : cs[8]? = some v) (h9 : cs[9]? = some (I64 (n : Nat))) : cs = hashC r v n := by
  apply Array.ext_getElem?
  intro i
  by_cases h1 : i < 8
  · rw [h i h1, hashC_r h1]
  · by_cases h2 : i = 8
    · subst h2; rw [h8, hashC_rest]
    · by_cases h3 : i = 9
      · subst h3; rw [h9, hashC_n]
      · rw [Array.getElem?_eq_none (by omega), Array.getElem?_eq_none (by rw [hashC_size]; omega)]
theorem hashC_set8 (r : Nat → UInt32) (v u : Value) (n : Nat) : (hashC r v n).setIfInBounds 8 u = hashC r u n := by
  refine hashC_eq (by simp) (fun i hi => ?_) ?_ ?_
  · rw [Array.getElem?_setIfInBounds, if_neg (by omega), hashC_r hi]
  · rw [Array.getElem?_setIfInBounds, if_pos rfl, if_pos (by simp)]
  · rw [Array.getElem?_setIfInBounds, if_neg (by omega), hashC_n]
theorem hashC_set9 (r : Nat → UInt32) (v : Value) (n m : Nat) : (hashC r v n).setIfInBounds 9 (I64 (m : Nat)) = hashC r v m := by
  refine hashC_eq (by simp) (fun i hi => ?_) ?_ ?_
  · rw [Array.getElem?_setIfInBounds, if_neg (by omega), hashC_r hi]
  · rw [Array.getElem?_setIfInBounds, if_neg (by omega), hashC_rest]
  · rw [Array.getElem?_setIfInBounds, if_pos rfl, if_pos (by simp)]
theorem hashC_spl (r q : Nat → UInt32) (v : Value) (n : Nat) : splice (hashC r v n) 0 (arr32 8 q) = hashC q v n := by
  have hs : 0 + (arr32 8 q).size ≤ (hashC r v n).size := by simp
  refine hashC_eq (by rw [splice_size hs]; simp) (fun i hi => ?_) ?_ ?_
  · rw [splice_get hs, if_pos (by simp; omega), Nat.sub_zero, arr32_get hi]
  · rw [splice_get hs, if_neg (by simp), hashC_rest]
  · rw [splice_get hs, if_neg (by simp), hashC_n]
theorem Tabs.lt {w : World} (h : Tabs w) : 2 ≤ w.heap.size := by
  have := block_lt_of_cell (h.2 0 (by decide))
  exact this
theorem Hp.start2 {w : World} {b : Nat} {t t2 : TypeId} {cs cs2 : Array Value} {o : Option Nat} (h : Blk w b t cs) (ho : ∀ x, o = some x → Blk w x t2 cs2 ∧ x ≠ b) : Hp (b :: o.toList) w w [(some b, t, cs), (o, t2, cs2)] := by
  have h1 : Hp (b :: o.toList) w w [(some b, t, cs)] := (Hp.start (b :: o.toList) w).add (some b, t, cs) (fun b' hb' => by cases hb'; exact ⟨.inr (by simp), h⟩) (by simp)
  refine h1.add (o, t2, cs2) (fun x hx => ⟨.inr ?_, (ho x hx).1⟩) (fun e he x hx hxe => ?_)
  · have hx : o = some x := hx
    subst hx; simp
  · simp only [List.mem_singleton] at he
    subst he
    cases hxe
    exact (ho _ hx).2 rfl
theorem Hp.callw2 {S : List Nat} {w0 w w' : World} {L : List Own} (h : Hp S w0 w L) (i j : Nat) {b : Nat} {t t2 : TypeId} {cs cs' cs2 cs2' : Array Value} {o o' : Option Nat} (hi : L[i]? = some (some b, t, cs)) (hj : L[j]? = some (o, t2, cs2)) (hij : i ≠ j)
    (hc : Chg (b :: o.toList) w w') (hb : Blk w' b t cs') (ho : ∀ x, o' = some x → Blk w' x t2 cs2' ∧ x ≠ b ∧ (w.heap.size ≤ x ∨ x ∈ o.toList)) : Hp S w0 w' ((L.set i (some b, t, cs')).set j (o', t2, cs2')) where
  chg := h.chg.trans' hc (fun x hx hlt => by
    rcases List.mem_cons.1 hx with rfl | hx
    · rcases h.mine i hi with h1 | h1
      · omega
      · exact h1
    · have hx : o = some x := by cases o <;> simp_all
      subst hx
      rcases h.mine j hj with h1 | h1
      · omega
      · exact h1)
  own x hx y hy := by
    obtain ⟨m, hm⟩ := List.mem_iff_getElem?.1 hx
    rw [List.getElem?_set] at hm
    by_cases e1 : j = m
    · rw [if_pos e1] at hm
      split at hm
      · cases hm
        have hy : o' = some y := hy
        obtain ⟨h1, h2, h3⟩ := ho y hy
        refine ⟨?_, h1⟩
        rcases h3 with h3 | h3
        · have := h.chg.size; exact .inl (by omega)
        · have : o = some y := by cases o <;> simp_all
          subst this
          exact h.mine j hj
      · cases hm
    · rw [if_neg e1, List.getElem?_set] at hm
      by_cases e2 : i = m
      · rw [if_pos e2] at hm
        split at hm
        · cases hm; cases hy; exact ⟨h.mine i hi, hb⟩
        · cases hm
      · rw [if_neg e2] at hm
        have hmem := List.mem_of_getElem? hm
        obtain ⟨h1, h2⟩ := h.own x hmem y hy
        refine ⟨h1, hc.blk h2 fun hin => ?_⟩
        rcases List.mem_cons.1 hin with rfl | hin
        · exact e2 (h.apart i m y (by rw [hi]; rfl) (by rw [hm]; exact hy))
        · have : o = some y := by cases o <;> simp_all
          subst this
          exact e1 (h.apart j m y (by rw [hj]; rfl) (by rw [hm]; exact hy))
  apart m m' y hm hm' := by
    have key : ∀ q : Nat, (((L.set i (some b, t, cs')).set j (o', t2, cs2'))[q]?).bind Own.at = some y → (q = j ∧ o' = some y) ∨ (q ≠ j ∧ q = i ∧ b = y) ∨ (q ≠ j ∧ q ≠ i ∧ (L[q]?).bind Own.at = some y) := by
      intro q hq
      rw [List.getElem?_set] at hq
      by_cases e1 : j = q
      · rw [if_pos e1] at hq
        split at hq
        · exact .inl ⟨e1.symm, hq⟩
        · simp at hq
      · rw [if_neg e1, List.getElem?_set] at hq
        by_cases e2 : i = q
        · rw [if_pos e2] at hq
          split at hq
          · exact .inr (.inl ⟨fun h => e1 h.symm, e2.symm, by simpa [Own.at] using hq⟩)
          · simp at hq
        · rw [if_neg e2] at hq
          exact .inr (.inr ⟨fun h => e1 h.symm, fun h => e2 h.symm, hq⟩)
    have old : ∀ q, q ≠ j → (L[q]?).bind Own.at = some y → o' = some y → False := by
      intro q hqj hq hoy
      obtain ⟨h1, h2, h3⟩ := ho y hoy
      obtain ⟨x, hx, hxb⟩ := Option.bind_eq_some_iff.1 hq
      rcases h3 with h3 | h3
      · have := h.lt (List.mem_of_getElem? hx) hxb; omega
      · have : o = some y := by cases o <;> simp_all
        subst this
        exact hqj (h.apart q j y hq (by rw [hj]; rfl))
    rcases key m hm with ⟨a1, a2⟩ | ⟨a0, a1, a2⟩ | ⟨a0, a1, a2⟩ <;> rcases key m' hm' with ⟨c1, c2⟩ | ⟨c0, c1, c2⟩ | ⟨c0, c1, c2⟩
    · omega
    · exact ((ho y a2).2.1 c2.symm).elim
    · exact (old m' c0 c2 a2).elim
    · exact ((ho y c2).2.1 a2.symm).elim
    · omega
    · exact (c1 (h.apart m' i y c2 (by rw [hi]; exact congrArg some a2))).elim
    · exact (old m a0 a2 c2).elim
    · exact (a1 (h.apart m i y a2 (by rw [hi]; exact congrArg some c2))).elim
    · exact h.apart m m' y a2 c2
def hashL (l : List UInt8) (v : Value) : Array Value := hashC (shaReg l (l.length / 64)) v l.length
@[simp] theorem hashL_size (l : List UInt8) (v : Value) : (hashL l v).size = 10 := by simp [hashL]
theorem restL_app (l bl : List UInt8) : (l ++ bl).drop (64 * (l.length / 64)) = restL l ++ bl := by
  rw [List.drop_append_of_le_length (by omega)]; rfl
theorem restL_len (l : List UInt8) : (restL l).length = l.length % 64 := by
  unfold restL; rw [List.length_drop]; omega
theorem OwnD.next {o : Option Nat} {f m c : Nat} {cs : Array Value} {l : List UInt8} {k : Nat} (h : OwnD o f m c cs (l.drop (64 * k))) (hm : 64 ≤ m) : OwnD o (cutO f 64 c) (m - 64) (c - 64) cs (l.drop (64 * (k + 1))) := by
  have h2 := OwnD.cutl h hm
  rw [List.drop_drop] at h2
  first | exact h2 | (rw [Nat.add_comm] at h2; exact h2)
theorem Hp.no {w0 w : World} {L : List Own} (h : Hp [] w0 w L) (hT : Tabs w0) (i j : Nat) {b : Nat} {t t2 : TypeId} {cs cs2 : Array Value} {o : Option Nat} (hi : L[i]? = some (some b, t, cs)) (hj : L[j]? = some (o, t2, cs2)) {g : Nat} (hg : g < 2) : g ∉ b :: o.toList := by
  have hl := hT.lt
  intro hin
  rcases List.mem_cons.1 hin with rfl | hin
  · have := (h.mine i hi).resolve_right (by simp); omega
  · have : o = some g := by cases o <;> simp_all
    subst this
    have := (h.mine j hj).resolve_right (by simp); omega
theorem Hp.sure2 {w0 w w' : World} {L : List Own} (h : Hp [] w0 w L) (i j : Nat) {b : Nat} {t t2 : TypeId} {cs cs2 : Array Value} {o : Option Nat} (hi : L[i]? = some (some b, t, cs)) (hj : L[j]? = some (o, t2, cs2)) (hc : Chg (b :: o.toList) w w') : Chg [] w0 w' :=
  h.chg.trans' hc fun x hx hlt => by
    rcases List.mem_cons.1 hx with rfl | hx
    · have := (h.mine i hi).resolve_right (by simp); omega
    · have hx : o = some x := by cases o <;> simp_all
      subst hx
      have := (h.mine j hj).resolve_right (by simp); omega
theorem Hp.keep2 {w0 w w' : World} {L : List Own} (h : Hp [] w0 w L) (i j k : Nat) {b : Nat} {t t2 : TypeId} {cs cs2 : Array Value} {o : Option Nat} {e : Own} (hi : L[i]? = some (some b, t, cs)) (hj : L[j]? = some (o, t2, cs2)) (hk : L[k]? = some e) (hki : k ≠ i) (hkj : k ≠ j) (hc : Chg (b :: o.toList) w w') : Hp [] w0 w' [e] where
  chg := h.sure2 i j hi hj hc
  own x hx y hy := by
    simp only [List.mem_singleton] at hx
    subst hx
    obtain ⟨h1, h2⟩ := h.own x (List.mem_of_getElem? hk) y hy
    refine ⟨h1, hc.blk h2 fun hin => ?_⟩
    rcases List.mem_cons.1 hin with rfl | hin
    · exact hki (h.apart k i y (by rw [hk]; exact hy) (by rw [hi]; rfl))
    · have : o = some y := by cases o <;> simp_all
      subst this
      exact hkj (h.apart k j y (by rw [hk]; exact hy) (by rw [hj]; rfl))
  apart m m' y hm hm' := by
    have key : ∀ q : Nat, (([e] : List Own)[q]?).bind Own.at = some y → q = 0 := by
      intro q hq
      cases q with
      | zero => rfl
      | succ q => simp at hq
    rw [key m hm, key m' hm']
theorem Hp.addnone {S : List Nat} {w0 w : World} {L : List Own} (h : Hp S w0 w L) (t : TypeId) (cs : Array Value) : Hp S w0 w (L ++ [(none, t, cs)]) :=
  h.add (none, t, cs) (fun b hb => by cases hb) (fun e he x hx hxe => by cases hx)
theorem shaNew_calls (w : World) (hT : Tabs w) : Ret Tryd.prog 22 #[] w fun v w' => ∃ b, v = PT b 0 ∧ Chg [] w w' ∧ w.heap.size ≤ b ∧ Blk w' b 120 (hashL [] (ownO none 0 0 0)) := by
 refine Ret.enter Tryd.func22 rfl ?_
 simp only [Tryd.ntmps22, fe, Nat.reduceAdd, Nat.reduceSub]
 have hH := Hp.start [] w
 refine wp_seq_k ?_
 intro K1 hK1
 refine wrt [.p 0] ?_
 refine pa ?_;simp only [nf]
 refine plan_nil hH ?_
 clear hH
 intro w2 hH
 refine hK1 _ _ ?_
 (try clear hK1 K1)
 refine wp_seq_k ?_
 intro K3 hK3
 refine wrt [.q 0, .p 1, .x 2, .p 3] ?_
 refine pq rfl rfl (qr_celN (hT.grow hH.chg).1 rfl Tryd.underlying118 rfl sz118) ?_;simp only [nf]
 refine plan_p (v := .agg (hashL [] (ownO none 0 0 0))) rfl rfl (fun w => by kernel_rfl) ?_
 (try simp only [nf])
 refine plan_box rfl rfl hH rfl ?_
 clear hH
 intro b4 w5 hH
 (try simp only [nf, nh, Value.cells, arrB_set] at hH ⊢)
 refine pa ?_;simp only [nf]
 refine plan_nil hH ?_
 clear hH
 intro w6 hH
 refine hK3 _ _ ?_
 (try clear hK3 K3)
 refine wp_ret ?_
 (try simp only [Exit.then, Exit.inBlock, ↓reduceIte, Nat.reduceEqDiff])
 refine BP.ret1 rfl rfl ?_
 exact ⟨_, rfl, hH.chg, (hH.mine 0 rfl).resolve_right (by simp), hH.blk 0 rfl⟩
theorem shaWrite_calls (bh : Nat) (o : Option Nat) (off n cap : Nat) (cs : Array Value) (l bl : List UInt8) (bv : Value) (w : World) (hT : Tabs w) (h0 : 0 ∉ bh :: o.toList) (h1 : 1 ∉ bh :: o.toList)
    (hb : Blk w bh 120 (hashL l (ownO o off n cap))) (hO : OwnD o off n cap cs (restL l)) (hc : ∀ x, o = some x → Blk w x 5 cs ∧ x ≠ bh) (hs : ∀ w', Chg (bh :: o.toList) w w' → Sl w' bv bl) (hm : l.length + bl.length ≤ 140737488355328) :
    Ret Tryd.prog 23 #[PT bh 0, bv] w fun v w' => v = .tuple #[] ∧ ∃ o' f' m' c' cs', Chg (bh :: o.toList) w w' ∧ Blk w' bh 120 (hashL (l ++ bl) (ownO o' f' m' c')) ∧ OwnD o' f' m' c' cs' (restL (l ++ bl)) ∧ ∀ x, o' = some x → Blk w' x 5 cs' ∧ x ≠ bh ∧ (w.heap.size ≤ x ∨ x ∈ o.toList) := by
 unfold hashL at hb
 have hrl := hO.len
 rw [restL_len] at hrl
 refine Ret.enter Tryd.func23 rfl ?_
 simp only [Tryd.ntmps23, fe, Nat.reduceAdd, Nat.reduceSub]
 have hH := Hp.start2 hb hc
 refine wp_seq_k ?_
 intro K1 hK1
 refine wp_seq_k ?_
 intro K2 hK2
 refine wrt [.p 0, .p 1] ?_
 refine pm ?_;simp only [nf]
 refine pp rfl rfl (pr_bin rfl rfl (bin_eql_pn Tryd.underlying71)) ?_;simp only [nf]
 refine plan_nil hH ?_
 clear hH
 intro w3 hH
 refine hK2 _ _ ?_
 (try clear hK2 K2)
 refine wp_cond_false rfl ?_
 refine wp_skip ?_
 refine hK1 _ _ ?_
 (try clear hK1 K1)
 refine wp_seq_k ?_
 intro K4 hK4
 refine wrt [.p 0, .p 1, .p 2, .q 3, .p 4, .p 5, .p 6, .p 7, .p 8, .e 9] ?_
 refine pm ?_;simp only [nf]
 refine pp rfl rfl (pr_nilCheck rfl) ?_;simp only [nf]
 refine pp rfl rfl (pr_fieldAddr 9 rfl Tryd.underlying120 rfl rfl sz3) ?_;simp only [nf]
 refine pq rfl rfl (qr_load1 rfl Tryd.underlying3 rfl ((hH.blk 0 rfl).cell hashC_n)) ?_;simp only [nf]
 refine pm ?_;simp only [nf]
 refine pp rfl rfl (pr_len_Sl (hs _ hH.chg) rfl Tryd.underlying29) ?_;simp only [nf]
 refine pp rfl rfl (pr_bin rfl rfl (by first | exact bin_add_n (by omega) | exact bin_add_i (by omega) (by omega))) ?_;simp only [nf]
 refine pp rfl rfl (pr_nilCheck rfl) ?_;simp only [nf]
 refine pp rfl rfl (pr_fieldAddr 9 rfl Tryd.underlying120 rfl rfl sz3) ?_;simp only [nf]
 refine plan_store1 0 rfl rfl hH rfl rfl rfl rfl sz3 (by simp <;> omega) ?_
 clear hH
 intro w5 hH
 (try simp only [nf, nh, Value.cells, arrB_set, hashC_set8, hashC_set9, hashC_spl] at hH ⊢)
 refine plan_nil hH ?_
 clear hH
 intro w6 hH
 refine hK4 _ _ ?_
 (try clear hK4 K4)
 refine wp_seq_k ?_
 intro K7 hK7
 refine wrt [.p 0, .p 1, .p 2, .p 3, .q 4, .p 5, .e 6, .p 7, .p 8, .e 9] ?_
 refine pm (pm ?_);simp only [nf]
 refine pp rfl rfl (pr_nilCheck rfl) ?_;simp only [nf]
 refine pp rfl rfl (pr_fieldAddr 8 rfl Tryd.underlying120 rfl rfl sz29) ?_;simp only [nf]
 refine pq rfl rfl (qr_load1 rfl Tryd.underlying29 rfl ((hH.blk 0 rfl).cell hashC_rest)) ?_;simp only [nf]
 refine pm ?_;simp only [nf]
 refine plan_appendD 1 rfl rfl hH rfl hO (fun w' hH => ((hs _ hH.chg)).src) rfl rfl Tryd.underlying29 Tryd.underlying29 (.inl ⟨_, rfl⟩) sz5 bz5 ze5 (by first | omega | (simp <;> omega)) ?_
 clear hH
 intro o8 off9 cap10 cs11 w12 hO13 hH
 (try simp only [nf] at hH ⊢)
 (try simp only [nf, nh, Value.cells, arrB_set, hashC_set8, hashC_set9, hashC_spl] at hH ⊢)
 refine pp rfl rfl (pr_nilCheck rfl) ?_;simp only [nf]
 refine pp rfl rfl (pr_fieldAddr 8 rfl Tryd.underlying120 rfl rfl sz29) ?_;simp only [nf]
 refine plan_store1 0 rfl rfl hH rfl rfl rfl rfl sz29 (by simp <;> omega) ?_
 clear hH
 intro w14 hH
 (try simp only [nf, nh, Value.cells, arrB_set, hashC_set8, hashC_set9, hashC_spl] at hH ⊢)
 refine plan_nil hH ?_
 clear hH
 intro w15 hH
 refine hK7 _ _ ?_
 (try clear hK7 K7)
 refine wp_block ?_
 refine wp_loopT [] [24, 25, 26, 27, 28, 29, 30, 31, 32, 33, 34, 35, 36, 37, 38, 39, 40, 41, 42, 43, 44, 45, 46, 47, 48, 49] (fun (n16 : Nat) (vs : List Value) (w' : World) => ∃ (k f m c : Nat), vs = [] ∧ Hp (bh :: o.toList) w w' [(some bh, 120, hashC (shaReg (l ++ bl) k) (ownO o8 f m c) (l.length + bl.length)), (o8, 5, cs11)] ∧ n16 = m ∧ 64 * k ≤ l.length + bl.length ∧ OwnD o8 f m c cs11 ((l ++ bl).drop (64 * k))) (n + bl.length) (by kernel_rfl) ?_ ?_
 ·
  simp only [ga]
  refine ⟨l.length / 64, off9, n + bl.length, cap10, trivial, ?_, rfl, ?_, ?_⟩
  ·
   rw [shaReg_app _ _ _ (by omega)]
   exact hH
  · first | omega | (omega)
  · first | omega | (rw [restL_app]; assumption)
 clear hH
 intro n16 vs17 w18 hR19 d0
 obtain ⟨k, f, m, c, rfl, hH, hn20, hf21, hD⟩ := hR19
 simp only [putAll, putD, List.set_cons_zero, List.set_cons_succ, Nat.zero_add, Nat.reduceAdd]
 have hml := hD.len
 rw [List.length_drop, List.length_append] at hml
 refine wp_seq_k ?_
 intro K22 hK22
 refine wp_seq_k ?_
 intro K23 hK23
 refine wrt [.p 0, .p 1, .p 2, .q 3, .p 4, .p 5] ?_
 refine pm ?_;simp only [nf]
 refine pp rfl rfl (pr_nilCheck rfl) ?_;simp only [nf]
 refine pp rfl rfl (pr_fieldAddr 8 rfl Tryd.underlying120 rfl rfl sz29) ?_;simp only [nf]
 refine pq rfl rfl (qr_load1 rfl Tryd.underlying29 rfl ((hH.blk 0 rfl).cell hashC_rest)) ?_;simp only [nf]
 refine pp rfl rfl (pr_len_sl rfl Tryd.underlying29) ?_;simp only [nf]
 refine pp rfl rfl (pr_bin rfl rfl (by first | exact bin_geq_n (n := 64)  | exact bin_geq_i)) ?_;simp only [nf]
 refine plan_nil hH ?_
 clear hH
 intro w24 hH
 refine hK23 _ _ ?_
 (try clear hK23 K23)
 refine wp_cond_split rfl (fun hc25 => ?_) (fun hc25 => ?_)
 ·
  (try simp only [cnd] at hc25)
  refine wp_skip ?_
  refine hK22 _ _ ?_
  (try clear hK22 K22)
  refine wp_block ?_
  refine wp_seq_k ?_
  intro K26 hK26
  refine wrp [.p 0, .p 1, .p 2, .p 3, .p 5, .p 6, .p 7, .q 4, .q 8, .q 9, .p 10, .p 11, .e 12] ?_
  refine pm (pm ?_);simp only [nf]
  refine pp rfl rfl (pr_nilCheck rfl) ?_;simp only [nf]
  refine pp rfl rfl (pr_fieldAddr 0 rfl Tryd.underlying120 rfl rfl sz118) ?_;simp only [nf]
  refine pm ?_;simp only [nf]
  refine pp rfl rfl (pr_nilCheck rfl) ?_;simp only [nf]
  refine pp rfl rfl (pr_fieldAddr 8 rfl Tryd.underlying120 rfl rfl sz29) ?_;simp only [nf]
  refine pq rfl rfl (qr_loadE _ rfl (hH.blk 0 rfl) Tryd.underlying118 rfl sz118 (by rw [hashC_size]; omega) hashC_ext) ?_;simp only [nf]
  refine pq rfl rfl (qr_load1 rfl Tryd.underlying29 rfl ((hH.blk 0 rfl).cell hashC_rest)) ?_;simp only [nf]
  refine pq rfl rfl (qr_call cf57 (fun w' hw => shamix_calls _ _ _ w' ((hT.chg hH.chg h0 h1).grow hw) ((OwnD.sl hH 1 rfl hD).chg hw) (by first | omega | (simp <;> omega))) rfl) ?_;simp only [nf]
  refine pp rfl rfl (pr_nilCheck rfl) ?_;simp only [nf]
  refine pp rfl rfl (pr_fieldAddr 0 rfl Tryd.underlying120 rfl rfl sz118) ?_;simp only [nf]
  refine plan_storeN 0 rfl rfl hH rfl rfl rfl one_arr32 sz118 (by simp) (by simp <;> omega) ?_
  clear hH
  intro w27 hH
  (try simp only [nf, nh, Value.cells, arrB_set, hashC_set8, hashC_set9, hashC_spl] at hH ⊢)
  refine plan_nil hH ?_
  clear hH
  intro w28 hH
  refine hK26 _ _ ?_
  (try clear hK26 K26)
  refine wrt [.p 0, .p 1, .p 2, .p 3, .q 4, .p 5, .p 6, .p 7, .e 8] ?_
  refine pm (pm ?_);simp only [nf]
  refine pp rfl rfl (pr_nilCheck rfl) ?_;simp only [nf]
  refine pp rfl rfl (pr_fieldAddr 8 rfl Tryd.underlying120 rfl rfl sz29) ?_;simp only [nf]
  refine pq rfl rfl (qr_load1 rfl Tryd.underlying29 rfl ((hH.blk 0 rfl).cell hashC_rest)) ?_;simp only [nf]
  refine pp rfl rfl (pr_slice_D (lo := 64) rfl rfl Tryd.underlying29 sz5 (by omega)) ?_;simp only [nf]
  refine pp rfl rfl (pr_nilCheck rfl) ?_;simp only [nf]
  refine pp rfl rfl (pr_fieldAddr 8 rfl Tryd.underlying120 rfl rfl sz29) ?_;simp only [nf]
  refine plan_store1 0 rfl rfl hH rfl rfl rfl rfl sz29 (by simp <;> omega) ?_
  clear hH
  intro w29 hH
  (try simp only [nf, nh, Value.cells, arrB_set, hashC_set8, hashC_set9, hashC_spl] at hH ⊢)
  refine plan_nil hH ?_
  clear hH
  intro w30 hH
  (try simp only [Exit.then, Exit.inBlock, ↓reduceIte, Nat.reduceEqDiff])
  refine ⟨m - 64, ?_, _, rfl, by kernel_rfl, ?_⟩
  · first | omega | (omega)
  simp only [ga]
  refine ⟨k + 1, cutO f 64 c, m - 64, c - 64, trivial, ?_, rfl, ?_, ?_⟩
  ·
   rw [shaReg_succ] at hH
   exact hH
  · first | omega | (omega)
  · first | omega | (exact OwnD.next hD (by omega))
 ·
  (try simp only [cnd] at hc25)
  refine wp_exit ?_
  (try simp only [Exit.then, Exit.inBlock, ↓reduceIte, Nat.reduceEqDiff])
  refine BP.normal ?_
  refine BP.ret0 rfl rfl ?_
  obtain rfl : k = (l ++ bl).length / 64 := by rw [List.length_append]; omega
  refine ⟨rfl, _, f, m, c, _, hH.chg, ?_, hD, fun x hx => ?_⟩
  · unfold hashL
    simpa only [List.length_append] using hH.blk 0 rfl
  · subst hx
    have hne := hH.other (i := 0) rfl (j := 1) rfl (by decide) rfl
    refine ⟨hH.blk 1 rfl, hne, ?_⟩
    rcases hH.mine 1 rfl with h | h
    · exact .inl h
    · exact .inr ((List.mem_cons.1 h).resolve_left hne)
end Go.Proofs.YtdkjdioccpoacaaDoor
set_option linter.unusedSimpArgs false
set_option linter.unusedVariables false
set_option maxRecDepth 100000
set_option maxHeartbeats 4000000
namespace Go.Proofs.YtdkjdioccpoacaaDoor
open Go
open List (getD_cons_zero getD_cons_succ set_cons_zero set_cons_succ)
def shaZ (n : Nat) : Nat := (120 - (n + 1) % 64) % 64
def shaN (n j : Nat) : UInt8 := (if 56 - 8 * j < 64 then UInt64.ofNat n <<< 3 >>> UInt64.ofNat (56 - 8 * j) else 0).toUInt8
def shaPad (l : List UInt8) : List UInt8 := l ++ (128 :: (List.replicate (shaZ l.length) 0 ++ (List.range 8).map (shaN l.length)))
def shaD (l : List UInt8) (i : Nat) : UInt8 := (if 24 - 8 * (i % 4) < 32 then shaReg (shaPad l) ((shaPad l).length / 64) (i / 4) >>> UInt32.ofNat (24 - 8 * (i % 4)) else 0).toUInt8
theorem shaPad_len (l : List UInt8) : (shaPad l).length = l.length + 1 + shaZ l.length + 8 := by
  simp only [shaPad, List.length_append, List.length_cons, List.length_replicate, List.length_map, List.length_range]; omega
theorem Hp.opt2 {S : List Nat} {w0 w : World} {L : List Own} (h : Hp S w0 w L) (i j : Nat) {b : Nat} {t t2 : TypeId} {cs cs2 : Array Value} {o : Option Nat} (hi : L[i]? = some (some b, t, cs)) (hj : L[j]? = some (o, t2, cs2)) (hij : i ≠ j) : ∀ x, o = some x → Blk w x t2 cs2 ∧ x ≠ b := fun x hx => by
  subst hx
  exact ⟨h.blk j hj, h.other hi hj hij rfl⟩
theorem OwnD.rest0 : OwnD none 0 0 0 #[] (restL []) := OwnD.start
theorem shaSum_calls (bh : Nat) (v : Value) (l : List UInt8) (w : World) (hT : Tabs w) (hb : Blk w bh 120 (hashL l v)) (hr : Sl w v (restL l)) (hm : l.length ≤ 140737488350000) :
    Ret Tryd.prog 24 #[PT bh 0] w fun v' w' => v' = .agg (arr8 32 (shaD l)) ∧ Chg [] w w' := by
 unfold hashL at hb
 have hrl := restL_len l
 have hz2 : shaZ l.length = (120 - (l.length + 1) % 64) % 64 := rfl
 have hpl := shaPad_len l
 refine Ret.enter Tryd.func24 rfl ?_
 simp only [Tryd.ntmps24, fe, Nat.reduceAdd, Nat.reduceSub]
 have hH := Hp.start [] w
 refine wp_seq_k ?_
 intro K1 hK1
 refine wrt [.x 0] ?_
 refine plan_alloc rfl rfl hH zc22 ?_
 clear hH
 intro b2 w3 hH
 (try simp only [nf, nh, Value.cells, arrB_set] at hH ⊢)
 refine plan_nil hH ?_
 clear hH
 intro w4 hH
 refine hK1 _ _ ?_
 (try clear hK1 K1)
 refine wp_seq_k ?_
 intro K5 hK5
 refine wp_seq_k ?_
 intro K6 hK6
 refine wrt [.p 0, .p 1] ?_
 refine pm ?_;simp only [nf]
 refine pp rfl rfl (pr_bin rfl rfl (bin_eql_pn Tryd.underlying71)) ?_;simp only [nf]
 refine plan_nil hH ?_
 clear hH
 intro w7 hH
 refine hK6 _ _ ?_
 (try clear hK6 K6)
 refine wp_cond_false rfl ?_
 refine wp_skip ?_
 refine hK5 _ _ ?_
 (try clear hK5 K5)
 refine wp_seq_k ?_
 intro K8 hK8
 refine wrt [.x 0, .p 1, .p 2, .p 3, .q 4, .e 5, .x 6, .e 7, .p 8] ?_
 refine plan_buildSlice rfl rfl hH Tryd.underlying29 (by rfl) (bs0 ) ?_
 clear hH
 intro b9 w10 hH
 (try simp only [nf, nh, Value.cells, arrB_set] at hH ⊢)
 refine pm ?_;simp only [nf]
 refine pp rfl rfl (pr_nilCheck rfl) ?_;simp only [nf]
 refine pp rfl rfl (pr_fieldAddr 8 rfl Tryd.underlying120 rfl rfl sz29) ?_;simp only [nf]
 refine pq rfl rfl (qr_load1 rfl Tryd.underlying29 rfl ((hH.chg.nil_blk hb).cell (by first | exact hashC_rest | exact hashC_n))) ?_;simp only [nf]
 refine plan_append 1 rfl rfl hH rfl (OwnC.of_bytes rfl) (fun w' hH => ((hr.chg hH.chg)).src) rfl rfl Tryd.underlying29 Tryd.underlying29 (.inl ⟨_, rfl⟩) sz5 bz5 ze5 rfl (by first | omega | (simp <;> omega)) (by first | omega | (simp <;> omega)) ?_
 clear hH
 intro o11 cap12 cs13 w14 hO15 hH
 (try simp only [nf] at hH ⊢)
 (try simp only [nf, nh, Value.cells, arrB_set] at hH ⊢)
 try rw [← List.map_append] at hO15
 (try simp only [Nat.zero_add, List.nil_append, List.length_nil] at hO15 ⊢)
 refine plan_buildSlice rfl rfl hH Tryd.underlying29 (by rfl) (bs1 128) ?_
 clear hH
 intro b16 w17 hH
 (try simp only [nf, nh, Value.cells, arrB_set] at hH ⊢)
 refine plan_append 1 rfl rfl hH rfl hO15 (fun w' hH => ((OwnC.sl hH 2 rfl (OwnC.of_bytes rfl))).src) rfl rfl Tryd.underlying29 Tryd.underlying29 (.inl ⟨_, rfl⟩) sz5 bz5 ze5 rfl (by first | omega | (simp <;> omega)) (by first | omega | (simp <;> omega)) ?_
 clear hH
 intro o18 cap19 cs20 w21 hO22 hH
 (try simp only [nf] at hH ⊢)
 (try simp only [nf, nh, Value.cells, arrB_set] at hH ⊢)
 try rw [← List.map_append] at hO22
 (try simp only [Nat.zero_add, List.nil_append, List.length_nil] at hO22 ⊢)
 refine pa ?_;simp only [nf]
 refine plan_nil hH ?_
 clear hH
 intro w23 hH
 refine hK8 _ _ ?_
 (try clear hK8 K8)
 refine wp_seq_k ?_
 intro K24 hK24
 refine wp_block ?_
 obtain ⟨kc25, hkc26, hN⟩ := hH.name 0 rfl
 replace hH := hN; clear hN; simp only [List.set_cons_zero, List.set_cons_succ] at hH
 refine wp_loopT [3] [20, 21, 22, 23, 24, 25, 26] (fun (n27 : Nat) (vs : List Value) (w' : World) => ∃ (q : Nat) (o : Option Nat) (c : Nat) (cs : Array Value), vs = [own o ((restL l).length + 1 + q) c] ∧ Hp [] w w' [(some b2, 22, kc25), (o, 5, cs)] ∧ n27 = shaZ l.length - q ∧ q ≤ shaZ l.length ∧ OwnC o ((restL l).length + 1 + q) c 1 cs ((restL l ++ [128] ++ List.replicate q 0).map V8)) (shaZ l.length - 0) (by kernel_rfl) ?_ ?_
 ·
  simp only [ga]
  refine ⟨0, o18, cap19, cs20, rfl, ?_, rfl, ?_, ?_⟩
  ·
   exact hH.take 2
  · first | omega | (omega)
  · first | omega | (rw [List.replicate_zero, List.append_nil]; exact hO22)
 clear hH
 intro n27 vs28 w29 hR30 d0
 obtain ⟨q, o, c, cs, rfl, hH, hn31, hf32, hO⟩ := hR30
 simp only [putAll, putD, List.set_cons_zero, List.set_cons_succ, Nat.zero_add, Nat.reduceAdd]
 subst hkc26
 refine wp_seq_k ?_
 intro K33 hK33
 refine wp_seq_k ?_
 intro K34 hK34
 refine wrt [.p 0, .p 1, .p 2, .p 3] ?_
 refine pm ?_;simp only [nf]
 refine pp rfl rfl (pr_len_sl rfl Tryd.underlying29) ?_;simp only [nf]
 refine pp rfl rfl (pr_bin rfl rfl (by first | exact bin_rem_n (n := 64) (by omega))) ?_;simp only [nf]
 refine pp rfl rfl (pr_bin rfl rfl (by first | exact bin_neq_n (n := 56)  | exact bin_neq_i)) ?_;simp only [nf]
 refine plan_nil hH ?_
 clear hH
 intro w35 hH
 refine hK34 _ _ ?_
 (try clear hK34 K34)
 refine wp_cond_split rfl (fun hc36 => ?_) (fun hc36 => ?_)
 ·
  (try simp only [cnd] at hc36)
  refine wp_skip ?_
  refine hK33 _ _ ?_
  (try clear hK33 K33)
  refine wp_block ?_
  refine wrt [.p 0, .x 1, .e 2, .p 3] ?_
  refine pm ?_;simp only [nf]
  refine plan_buildSlice rfl rfl hH Tryd.underlying29 (by rfl) (bs1 0) ?_
  clear hH
  intro b37 w38 hH
  (try simp only [nf, nh, Value.cells, arrB_set] at hH ⊢)
  refine plan_append 1 rfl rfl hH rfl hO (fun w' hH => ((OwnC.sl hH 2 rfl (OwnC.of_bytes rfl))).src) rfl rfl Tryd.underlying29 Tryd.underlying29 (.inl ⟨_, rfl⟩) sz5 bz5 ze5 rfl (by first | omega | (simp <;> omega)) (by first | omega | (simp <;> omega)) ?_
  clear hH
  intro o39 cap40 cs41 w42 hO43 hH
  (try simp only [nf] at hH ⊢)
  (try simp only [nf, nh, Value.cells, arrB_set] at hH ⊢)
  try rw [← List.map_append] at hO43
  (try simp only [Nat.zero_add, List.nil_append, List.length_nil] at hO43 ⊢)
  refine pa ?_;simp only [nf]
  refine plan_nil hH ?_
  clear hH
  intro w44 hH
  (try simp only [Exit.then, Exit.inBlock, ↓reduceIte, Nat.reduceEqDiff])
  refine ⟨shaZ l.length - (q + 1), ?_, _, rfl, by kernel_rfl, ?_⟩
  · first | omega | (omega)
  simp only [ga]
  refine ⟨q + 1, o39, cap40, cs41, rfl, ?_, rfl, ?_, ?_⟩
  ·
   exact hH.take 2
  · first | omega | (omega)
  · first | omega | (rw [List.replicate_succ', ← List.append_assoc]; exact hO43)
 ·
  (try simp only [cnd] at hc36)
  obtain rfl : q = shaZ l.length := by omega
  refine wp_exit ?_
  (try simp only [Exit.then, Exit.inBlock, ↓reduceIte, Nat.reduceEqDiff])
  refine hK24 _ _ ?_
  (try clear hK24 K24)
  refine wp_seq_k ?_
  intro K45 hK45
  refine wp_seq_k ?_
  intro K46 hK46
  refine wrt [.p 0] ?_
  refine pka 56 ?_;simp only [nf]
  refine plan_nil hH ?_
  clear hH
  intro w47 hH
  refine hK46 _ _ ?_
  (try clear hK46 K46)
  refine wp_block ?_
  obtain ⟨kc48, hkc49, hN⟩ := hH.name 0 rfl
  replace hH := hN; clear hN; simp only [List.set_cons_zero, List.set_cons_succ] at hH
  refine wp_loopT [3, 4] [27, 28, 29, 30, 31, 32, 33, 34, 35, 36, 37, 38, 39, 40, 41, 42] (fun (n50 : Nat) (vs : List Value) (w' : World) => ∃ (j : Nat) (o : Option Nat) (c : Nat) (cs : Array Value), vs = [own o ((restL l).length + 1 + shaZ l.length + j) c, I64 ((56 : Int) - 8 * (j : Nat))] ∧ Hp [] w w' [(some b2, 22, kc48), (o, 5, cs)] ∧ n50 = 8 - j ∧ j ≤ 8 ∧ OwnC o ((restL l).length + 1 + shaZ l.length + j) c 1 cs ((restL l ++ [128] ++ List.replicate (shaZ l.length) 0 ++ (List.range j).map (shaN l.length)).map V8)) (8 - 0) (by kernel_rfl) ?_ ?_
  ·
   simp only [ga]
   refine ⟨0, o, c, cs, rfl, ?_, rfl, ?_, ?_⟩
   ·
    exact hH.take 2
   · first | omega | (omega)
   · first | omega | (rw [List.range_zero, List.map_nil, List.append_nil]; exact hO)
  clear hH
  intro n50 vs51 w52 hR53 d1
  obtain ⟨j, o, c, cs, rfl, hH, hn54, hf55, hO⟩ := hR53
  simp only [putAll, putD, List.set_cons_zero, List.set_cons_succ, Nat.zero_add, Nat.reduceAdd]
  subst hkc49
  refine wp_seq_k ?_
  intro K56 hK56
  refine wp_seq_k ?_
  intro K57 hK57
  refine wrt [.p 0, .p 1] ?_
  refine pm ?_;simp only [nf]
  refine pp rfl rfl (pr_bin rfl rfl (by first | exact bin_geq_n (n := 0)  | exact bin_geq_i)) ?_;simp only [nf]
  refine plan_nil hH ?_
  clear hH
  intro w58 hH
  refine hK57 _ _ ?_
  (try clear hK57 K57)
  refine wp_cond_split rfl (fun hc59 => ?_) (fun hc59 => ?_)
  ·
   (try simp only [cnd] at hc59)
   simp only [show ((56 : Int) - 8 * (j : Nat)) = ((56 - 8 * j : Nat) : Int) by omega]
   refine wp_skip ?_
   refine hK56 _ _ ?_
   (try clear hK56 K56)
   refine wp_seq_k ?_
   intro K60 hK60
   refine wp_block ?_
   refine wrt [.p 0, .p 1, .p 2, .p 3, .q 4, .p 5, .p 6, .p 7, .p 8, .p 9, .x 10, .e 11, .p 12] ?_
   refine pm (pm ?_);simp only [nf]
   refine pp rfl rfl (pr_nilCheck rfl) ?_;simp only [nf]
   refine pp rfl rfl (pr_fieldAddr 9 rfl Tryd.underlying120 rfl rfl sz3) ?_;simp only [nf]
   refine pq rfl rfl (qr_load1 rfl Tryd.underlying3 rfl ((hH.chg.nil_blk hb).cell (by first | exact hashC_rest | exact hashC_n))) ?_;simp only [nf]
   refine pp rfl rfl (pr_conv rfl (by first | exact cnv_n_u64 Tryd.underlying3 Tryd.underlying45 | exact cnv_i_u64 Tryd.underlying3 Tryd.underlying45)) ?_;simp only [nf]
   refine pp rfl rfl (pr_bin rfl rfl (bin_shlc_u64 3 3 (by decide) rfl _)) ?_;simp only [nf]
   refine pm ?_;simp only [nf]
   refine pp rfl rfl (pr_bin rfl rfl (bin_shr_u64 _ _ _)) ?_;simp only [nf]
   refine pp rfl rfl (pr_conv rfl (cnv_u64_u8 _ Tryd.underlying45 Tryd.underlying5)) ?_;simp only [nf]
   refine plan_buildSlice rfl rfl hH Tryd.underlying29 (by rfl) (bs1 _) ?_
   clear hH
   intro b61 w62 hH
   (try simp only [nf, nh, Value.cells, arrB_set] at hH ⊢)
   refine plan_append 1 rfl rfl hH rfl hO (fun w' hH => ((OwnC.sl hH 2 rfl (OwnC.of_bytes rfl))).src) rfl rfl Tryd.underlying29 Tryd.underlying29 (.inl ⟨_, rfl⟩) sz5 bz5 ze5 rfl (by first | omega | (simp <;> omega)) (by first | omega | (simp <;> omega)) ?_
   clear hH
   intro o63 cap64 cs65 w66 hO67 hH
   (try simp only [nf] at hH ⊢)
   (try simp only [nf, nh, Value.cells, arrB_set] at hH ⊢)
   try rw [← List.map_append] at hO67
   (try simp only [Nat.zero_add, List.nil_append, List.length_nil] at hO67 ⊢)
   refine pa ?_;simp only [nf]
   refine plan_nil hH ?_
   clear hH
   intro w68 hH
   refine hK60 _ _ ?_
   (try clear hK60 K60)
   refine wrt [.p 0, .p 1, .p 2] ?_
   refine pm ?_;simp only [nf]
   refine pp rfl rfl (pr_bin rfl rfl (by first | exact bin_sub_n (n := 8) (by omega) (by omega) | exact bin_sub_i (by omega) (by omega))) ?_;simp only [nf]
   refine pa ?_;simp only [nf]
   refine plan_nil hH ?_
   clear hH
   intro w69 hH
   (try simp only [Exit.then, Exit.inBlock, ↓reduceIte, Nat.reduceEqDiff])
   rw [show (((56 - 8 * j : Nat) : Int) - 8) = 56 - 8 * ((j + 1 : Nat) : Int) by omega]
   refine ⟨8 - (j + 1), ?_, _, rfl, by kernel_rfl, ?_⟩
   · first | omega | (omega)
   simp only [ga]
   refine ⟨j + 1, o63, cap64, cs65, rfl, ?_, rfl, ?_, ?_⟩
   ·
    exact hH.take 2
   · first | omega | (omega)
   · first | omega | (rw [List.range_succ, List.map_append (f := shaN l.length), ← List.append_assoc]; exact hO67)
  ·
   (try simp only [cnd] at hc59)
   obtain rfl : j = 8 := by omega
   refine wp_exit ?_
   (try simp only [Exit.then, Exit.inBlock, ↓reduceIte, Nat.reduceEqDiff])
   refine hK45 _ _ ?_
   (try clear hK45 K45)
   refine wp_seq_k ?_
   intro K70 hK70
   refine wrt [.p 0, .p 1, .p 2, .q 3, .x 4, .e 5] ?_
   refine pm ?_;simp only [nf]
   refine pp rfl rfl (pr_nilCheck rfl) ?_;simp only [nf]
   refine pp rfl rfl (pr_fieldAddr 0 rfl Tryd.underlying120 rfl rfl sz118) ?_;simp only [nf]
   refine pq rfl rfl (qr_loadE _ rfl (hH.chg.nil_blk hb) Tryd.underlying118 rfl sz118 (by rw [hashC_size]; omega) hashC_ext) ?_;simp only [nf]
   refine plan_alloc rfl rfl hH zc118 ?_
   clear hH
   intro b71 w72 hH
   (try simp only [nf, nh, Value.cells, arrB_set] at hH ⊢)
   refine plan_storeW 2 rfl rfl hH rfl rfl rfl one_arr32 sz118 (by simp) (by simp) ?_
   clear hH
   intro w73 hH
   (try simp only [nf, nh, Value.cells, arrB_set] at hH ⊢)
   refine plan_nil hH ?_
   clear hH
   intro w74 hH
   refine hK70 _ _ ?_
   (try clear hK70 K70)
   refine wp_seq_k ?_
   intro K75 hK75
   refine wp_block ?_
   obtain ⟨kc76, hkc77, hN⟩ := hH.name 0 rfl
   replace hH := hN; clear hN; simp only [List.set_cons_zero, List.set_cons_succ] at hH
   refine wp_loopT [3] [47, 48, 49, 50, 51, 52, 53, 54] (fun (n78 : Nat) (vs : List Value) (w' : World) => ∃ (k f m c : Nat), vs = [ownO o f m c] ∧ Hp [] w w' [(some b2, 22, kc76), (o, 5, cs), (some b71, 118, arr32 8 (shaReg (shaPad l) k))] ∧ n78 = m ∧ 64 * k ≤ (shaPad l).length ∧ OwnD o f m c cs ((shaPad l).drop (64 * k))) ((restL l).length + 1 + shaZ l.length + 8) (by kernel_rfl) ?_ ?_
   ·
    simp only [ga]
    refine ⟨l.length / 64, 0, (restL l).length + 1 + shaZ l.length + 8, c, rfl, ?_, rfl, ?_, ?_⟩
    ·
     unfold shaPad
     rw [shaReg_app _ _ _ (by omega)]
     exact hH
    · first | omega | (omega)
    · first | omega | (unfold shaPad; rw [restL_app]; have h := OwnC.d hO; simp only [List.append_assoc, List.cons_append, List.nil_append] at h ⊢; exact h)
   clear hH
   intro n78 vs79 w80 hR81 d2
   obtain ⟨k, f, m, c, rfl, hH, hn82, hf83, hD⟩ := hR81
   simp only [putAll, putD, List.set_cons_zero, List.set_cons_succ, Nat.zero_add, Nat.reduceAdd]
   have hml := hD.len
   rw [List.length_drop] at hml
   subst hkc77
   refine wp_seq_k ?_
   intro K84 hK84
   refine wp_seq_k ?_
   intro K85 hK85
   refine wrt [.p 0, .p 1, .p 2] ?_
   refine pm ?_;simp only [nf]
   refine pp rfl rfl (pr_len_sl rfl Tryd.underlying29) ?_;simp only [nf]
   refine pp rfl rfl (pr_bin rfl rfl (by first | exact bin_gtr_n (n := 0)  | exact bin_gtr_i)) ?_;simp only [nf]
   refine plan_nil hH ?_
   clear hH
   intro w86 hH
   refine hK85 _ _ ?_
   (try clear hK85 K85)
   refine wp_cond_split rfl (fun hc87 => ?_) (fun hc87 => ?_)
   ·
    (try simp only [cnd] at hc87)
    refine wp_skip ?_
    refine hK84 _ _ ?_
    (try clear hK84 K84)
    refine wp_seq_k ?_
    intro K88 hK88
    refine wp_block ?_
    refine wrt [.q 0, .p 1, .q 2, .e 3] ?_
    refine pq rfl rfl (qr_loadW rfl (hH.blk 2 rfl) Tryd.underlying118 rfl sz118 (by simp)) ?_;simp only [nf]
    refine pm ?_;simp only [nf]
    refine pq rfl rfl (qr_call cf57 (fun w' hw => shamix_calls _ _ _ w' (hT.grow (hH.chg.trans hw)) ((OwnD.sl hH 1 rfl hD).chg hw) (by first | omega | (simp <;> omega))) rfl) ?_;simp only [nf]
    refine plan_storeW 2 rfl rfl hH rfl rfl rfl one_arr32 sz118 (by simp) (by simp) ?_
    clear hH
    intro w89 hH
    (try simp only [nf, nh, Value.cells, arrB_set] at hH ⊢)
    refine plan_nil hH ?_
    clear hH
    intro w90 hH
    refine hK88 _ _ ?_
    (try clear hK88 K88)
    refine wrt [.p 0, .p 1, .p 2] ?_
    refine pm ?_;simp only [nf]
    refine pp rfl rfl (pr_slice_D (lo := 64) rfl rfl Tryd.underlying29 sz5 (by omega)) ?_;simp only [nf]
    refine pa ?_;simp only [nf]
    refine plan_nil hH ?_
    clear hH
    intro w91 hH
    (try simp only [Exit.then, Exit.inBlock, ↓reduceIte, Nat.reduceEqDiff])
    refine ⟨m - 64, ?_, _, rfl, by kernel_rfl, ?_⟩
    · first | omega | (omega)
    simp only [ga]
    refine ⟨k + 1, cutO f 64 c, m - 64, c - 64, rfl, ?_, rfl, ?_, ?_⟩
    ·
     rw [shaReg_succ] at hH
     exact hH
    · first | omega | (omega)
    · first | omega | (exact OwnD.next hD (by omega))
   ·
    (try simp only [cnd] at hc87)
    obtain rfl : k = (shaPad l).length / 64 := by omega
    refine wp_exit ?_
    (try simp only [Exit.then, Exit.inBlock, ↓reduceIte, Nat.reduceEqDiff])
    refine hK75 _ _ ?_
    (try clear hK75 K75)
    refine wp_seq_k ?_
    intro K92 hK92
    refine wrt [.x 0] ?_
    refine plan_alloc rfl rfl hH zc22 ?_
    clear hH
    intro b93 w94 hH
    (try simp only [nf, nh, Value.cells, arrB_set] at hH ⊢)
    refine plan_nil hH ?_
    clear hH
    intro w95 hH
    refine hK92 _ _ ?_
    (try clear hK92 K92)
    refine wp_seq_k ?_
    intro K96 hK96
    refine wp_seq_k ?_
    intro K97 hK97
    refine wrt [.p 0] ?_
    refine pk 0 ?_;simp only [nf]
    refine plan_nil hH ?_
    clear hH
    intro w98 hH
    refine hK97 _ _ ?_
    (try clear hK97 K97)
    refine wp_block ?_
    obtain ⟨kc99, hkc100, hN⟩ := hH.name 0 rfl
    replace hH := hN; clear hN; simp only [List.set_cons_zero, List.set_cons_succ] at hH
    refine wp_loopT [55] [7, 56, 57, 58, 59, 60, 61, 62, 63, 64, 65, 66, 67, 68, 69, 70] (fun (n101 : Nat) (vs : List Value) (w' : World) => ∃ (i : Nat), vs = [I64 (i : Nat)] ∧ Hp [] w w' [(some b2, 22, kc99), (o, 5, cs), (some b71, 118, arr32 8 (shaReg (shaPad l) ((shaPad l).length / 64))), (some b93, 22, arr8 32 fun j => if j < i then shaD l j else 0)] ∧ n101 = 32 - i ∧ i ≤ 32) (32 - 0) (by kernel_rfl) ?_ ?_
    ·
     simp only [ga]
     refine ⟨0, rfl, ?_, rfl, ?_⟩
     ·
      exact hH.say 3 rfl (arr8_congr fun j hj => by rw [if_neg (by omega)])
     · first | omega | (omega)
    clear hH
    intro n101 vs102 w103 hR104 d3
    obtain ⟨i, rfl, hH, hn105, hf106⟩ := hR104
    simp only [putAll, putD, List.set_cons_zero, List.set_cons_succ, Nat.zero_add, Nat.reduceAdd]
    subst hkc100
    refine wp_seq_k ?_
    intro K107 hK107
    refine wrt [.p 0] ?_
    refine pp rfl rfl (pr_bin rfl rfl (by first | exact bin_lss_n (n := 32)  | exact bin_lss_i)) ?_;simp only [nf]
    refine plan_nil hH ?_
    clear hH
    intro w108 hH
    refine hK107 _ _ ?_
    (try clear hK107 K107)
    refine wp_seq_k ?_
    intro K109 hK109
    refine wp_cond_split rfl (fun hc110 => ?_) (fun hc110 => ?_)
    ·
     (try simp only [cnd] at hc110)
     refine wp_skip ?_
     refine hK109 _ _ ?_
     (try clear hK109 K109)
     refine wp_seq_k ?_
     intro K111 hK111
     refine wp_block ?_
     refine wp_seq_k ?_
     intro K112 hK112
     refine wrt [.p 0, .p 1] ?_
     refine pm (pa ?_);simp only [nf]
     refine plan_nil hH ?_
     clear hH
     intro w113 hH
     refine hK112 _ _ ?_
     (try clear hK112 K112)
     refine wrt [.p 0, .p 1, .p 2, .p 3, .q 4, .p 5, .p 6, .p 7, .p 8, .p 9, .p 10, .p 11, .e 12] ?_
     refine pm (pm ?_);simp only [nf]
     refine pp rfl rfl (pr_bin rfl rfl (by first | exact bin_quo_n (n := 4) (by omega) (by omega))) ?_;simp only [nf]
     refine pp rfl rfl (pr_idxA1 rfl rfl Tryd.underlying118 sz117 (by omega)) ?_;simp only [nf]
     refine pq rfl rfl (qr_load1 rfl Tryd.underlying117 rfl ((hH.blk 2 rfl).cell (arr32_get (by omega)))) ?_;simp only [nf]
     refine pm ?_;simp only [nf]
     refine pp rfl rfl (pr_bin rfl rfl (by first | exact bin_rem_n (n := 4) (by omega))) ?_;simp only [nf]
     refine pp rfl rfl (pr_bin rfl rfl (by first | exact bin_mul_n (m := 8) (by omega) | exact bin_mul_i (by omega) (by omega))) ?_;simp only [nf]
     refine pp rfl rfl (pr_bin rfl rfl (by first | exact bin_sub_n (m := 24) (by omega) (by omega) | exact bin_sub_i (by omega) (by omega))) ?_;simp only [nf]
     refine pp rfl rfl (pr_bin rfl rfl (bin_shr_u32 _ _ _)) ?_;simp only [nf]
     refine pp rfl rfl (pr_conv rfl (cnv_u32_u8 _ Tryd.underlying117 Tryd.underlying5)) ?_;simp only [nf]
     refine pp rfl rfl (pr_idxA1 rfl rfl Tryd.underlying22 sz5 (by omega)) ?_;simp only [nf]
     refine plan_store1 3 rfl rfl hH rfl rfl rfl rfl sz5 (by simp <;> omega) ?_
     clear hH
     intro w114 hH
     (try simp only [nf, nh, Value.cells, arrB_set] at hH ⊢)
     refine plan_nil hH ?_
     clear hH
     intro w115 hH
     refine hK111 _ _ ?_
     (try clear hK111 K111)
     refine wrt [.p 0, .p 1] ?_
     refine pp rfl rfl (pr_bin rfl rfl (by first | exact bin_add_n (n := 1) (by omega) | exact bin_add_i (by omega) (by omega))) ?_;simp only [nf]
     refine pm ?_;simp only [nf]
     refine plan_nil hH ?_
     clear hH
     intro w116 hH
     (try simp only [Exit.then, Exit.inBlock, ↓reduceIte, Nat.reduceEqDiff])
     refine ⟨32 - (i + 1), ?_, _, rfl, by kernel_rfl, ?_⟩
     · first | omega | (omega)
     simp only [ga]
     refine ⟨i + 1, rfl, ?_, rfl, ?_⟩
     ·
      exact hH.say 3 rfl (arr8_congr fun j hj => upd_lt (g := shaD l) (z := fun _ => 0) rfl j)
     · first | omega | (omega)
    ·
     (try simp only [cnd] at hc110)
     obtain rfl : i = 32 := by omega
     replace hH := hH.say 3 rfl (arr8_congr (g := shaD l) fun j hj => if_pos hj)
     simp only [List.set_cons_zero, List.set_cons_succ] at hH
     refine wp_exit ?_
     (try simp only [Exit.then, Exit.inBlock, ↓reduceIte, Nat.reduceEqDiff])
     refine hK96 _ _ ?_
     (try clear hK96 K96)
     refine wp_seq_k ?_
     intro K117 hK117
     refine wrt [.q 0, .e 1] ?_
     refine pq rfl rfl (qr_loadW rfl (hH.blk 3 rfl) Tryd.underlying22 rfl sz22 (by simp)) ?_;simp only [nf]
     refine plan_storeW 0 rfl rfl hH rfl rfl rfl one_arr8 sz22 (by simp) (by simp) ?_
     clear hH
     intro w118 hH
     (try simp only [nf, nh, Value.cells, arrB_set] at hH ⊢)
     refine plan_nil hH ?_
     clear hH
     intro w119 hH
     refine hK117 _ _ ?_
     (try clear hK117 K117)
     refine wp_ret ?_
     (try simp only [Exit.then, Exit.inBlock, ↓reduceIte, Nat.reduceEqDiff])
     refine BP.retc rfl rfl (hH.blk 0 rfl) Tryd.underlying22 rfl sz22 (by simp) ?_
     exact ⟨rfl, hH.chg⟩
theorem shaOf_calls (v : Value) (l : List UInt8) (w : World) (hT : Tabs w) (hv : Sl w v l) (hm : l.length ≤ 140737488350000) : Ret Tryd.prog 8 #[v] w fun v' w' => v' = .agg (arr8 32 (shaD l)) ∧ Chg [] w w' := by
 refine Ret.enter Tryd.func8 rfl ?_
 simp only [Tryd.ntmps8, fe, Nat.reduceAdd, Nat.reduceSub]
 have hH := Hp.start [] w
 refine wp_seq_k ?_
 intro K1 hK1
 refine wrt [.x 0] ?_
 refine plan_alloc rfl rfl hH zc22 ?_
 clear hH
 intro b2 w3 hH
 (try simp only [nf, nh, Value.cells, arrB_set] at hH ⊢)
 refine plan_nil hH ?_
 clear hH
 intro w4 hH
 refine hK1 _ _ ?_
 (try clear hK1 K1)
 refine wp_seq_k ?_
 intro K5 hK5
 refine wrt [.x 0, .p 1] ?_
 refine plan_callx rfl rfl hH cf22 (fun w' hH => shaNew_calls w' (hT.grow hH.chg)) rfl (fun _ _ _ h => h.choose_spec.2.1) ?_
 clear hH
 intro w6 v7 w8 hH hp9
 obtain ⟨b10, rfl, hg, hfr, hbk⟩ := hp9
 replace hH := (hH.callnew hg hbk hfr).addnone 5 #[]
 clear hg hfr hbk
 (try simp only [nf, nh, Value.cells, arrB_set] at hH ⊢)
 (try simp only [nf])
 refine pa ?_;simp only [nf]
 refine plan_nil hH ?_
 clear hH
 intro w11 hH
 refine hK5 _ _ ?_
 (try clear hK5 K5)
 refine wp_seq_k ?_
 intro K12 hK12
 refine wrt [.p 0, .p 1, .e 2] ?_
 refine pm (pm ?_);simp only [nf]
 refine plan_calle rfl rfl hH cf23 (fun w' hH => shaWrite_calls _ _ _ _ _ _ _ _ _ w' (hT.grow hH.chg) (hH.no hT 1 2 rfl rfl (by decide)) (hH.no hT 1 2 rfl rfl (by decide)) (hH.blk 1 rfl) OwnD.rest0 (hH.opt2 1 2 rfl rfl (by decide)) (fun w2 hc => (hv.chg (hH.sure2 1 2 rfl rfl hc))) (by first | omega | (simp <;> omega))) rfl ?_
 clear hH
 intro w13 v14 w15 hH hp16
 obtain ⟨rfl, o17, f18, n19, c20, cs21, hg, hbk, hO22, hox⟩ := hp16
 replace hH := hH.callw2 1 2 rfl rfl (by decide) hg hbk hox
 clear hg hbk hox
 (try simp only [nf, nh, Value.cells, arrB_set] at hH ⊢)
 refine plan_nil hH ?_
 clear hH
 intro w23 hH
 refine hK12 _ _ ?_
 (try clear hK12 K12)
 refine wp_seq_k ?_
 intro K24 hK24
 refine wrt [.p 0, .q 1, .e 2] ?_
 refine pm ?_;simp only [nf]
 refine pq rfl rfl (qr_call cf24 (fun w' hw => shaSum_calls _ _ _ w' (hT.grow (hH.chg.trans hw)) (hw.nil_blk (hH.blk 1 rfl)) ((OwnD.sl hH 2 rfl hO22).chg hw) (by first | omega | (simp <;> omega))) rfl) ?_;simp only [nf]
 refine plan_storeW 0 rfl rfl hH rfl rfl rfl one_arr8 sz22 (by simp) (by simp) ?_
 clear hH
 intro w25 hH
 (try simp only [nf, nh, Value.cells, arrB_set] at hH ⊢)
 refine plan_nil hH ?_
 clear hH
 intro w26 hH
 refine hK24 _ _ ?_
 (try clear hK24 K24)
 refine wp_ret ?_
 (try simp only [Exit.then, Exit.inBlock, ↓reduceIte, Nat.reduceEqDiff])
 refine BP.retc rfl rfl (hH.blk 0 rfl) Tryd.underlying22 rfl sz22 (by simp) ?_
 exact ⟨rfl, hH.chg⟩
def macK (kl : List UInt8) (i : Nat) : UInt8 := kl.getD i 0
def macI (kl : List UInt8) (n : Nat) : List UInt8 := (List.range n).map fun i => macK kl i ^^^ 54
def macO (kl : List UInt8) (n : Nat) : List UInt8 := (List.range n).map fun i => macK kl i ^^^ 92
@[simp] theorem macI_len (kl : List UInt8) (n : Nat) : (macI kl n).length = n := by simp [macI]
@[simp] theorem macO_len (kl : List UInt8) (n : Nat) : (macO kl n).length = n := by simp [macO]
theorem macI_succ (kl : List UInt8) (n : Nat) : macI kl n ++ [macK kl n ^^^ 54] = macI kl (n + 1) := by simp [macI, List.range_succ]
theorem macO_succ (kl : List UInt8) (n : Nat) : macO kl n ++ [macK kl n ^^^ 92] = macO kl (n + 1) := by simp [macO, List.range_succ]
def macD (kl bl : List UInt8) (i : Nat) : UInt8 := shaD (macO kl 64 ++ (List.range 32).map (shaD (macI kl 64 ++ bl))) i
theorem copy_key (l : List UInt8) (hl : l.length ≤ 64) (j : Nat) : (if 0 ≤ j ∧ j < min l.length 64 then l.getD (j - 0) 0 else 0) = macK l j := by
  unfold macK
  by_cases h : j < l.length
  · rw [if_pos ⟨Nat.zero_le _, by omega⟩, Nat.sub_zero]
  · rw [if_neg (by omega)]; simp [List.getD, List.getElem?_eq_none (Nat.le_of_not_lt h)]
theorem mac_calls (kv bv : Value) (kl bl : List UInt8) (w : World) (hT : Tabs w) (hk : Sl w kv kl) (hb : Sl w bv bl) (h64 : kl.length ≤ 64) (hm : bl.length ≤ 140737488340000) :
    Ret Tryd.prog 58 #[kv, bv] w fun v' w' => v' = .agg (arr8 32 (macD kl bl)) ∧ Chg [] w w' := by
 refine Ret.enter Tryd.func58 rfl ?_
 simp only [Tryd.ntmps58, fe, Nat.reduceAdd, Nat.reduceSub]
 have hH := Hp.start [] w
 refine wp_seq_k ?_
 intro K1 hK1
 refine wrt [.x 0] ?_
 refine plan_alloc rfl rfl hH zc22 ?_
 clear hH
 intro b2 w3 hH
 (try simp only [nf, nh, Value.cells, arrB_set] at hH ⊢)
 refine plan_nil hH ?_
 clear hH
 intro w4 hH
 refine hK1 _ _ ?_
 (try clear hK1 K1)
 refine wp_seq_k ?_
 intro K5 hK5
 refine wrt [.x 0] ?_
 refine plan_alloc rfl rfl hH zc160 ?_
 clear hH
 intro b6 w7 hH
 (try simp only [nf, nh, Value.cells, arrB_set] at hH ⊢)
 refine plan_nil hH ?_
 clear hH
 intro w8 hH
 refine hK5 _ _ ?_
 (try clear hK5 K5)
 refine wp_seq_k ?_
 intro K9 hK9
 refine wp_seq_k ?_
 intro K10 hK10
 refine wrt [.p 0, .p 1, .p 2] ?_
 refine pm ?_;simp only [nf]
 refine pp rfl rfl (pr_len_Sl (hk.chg hH.chg) rfl Tryd.underlying29) ?_;simp only [nf]
 refine pp rfl rfl (pr_bin rfl rfl (by first | exact bin_gtr_n (n := 64)  | exact bin_gtr_i)) ?_;simp only [nf]
 refine plan_nil hH ?_
 clear hH
 intro w11 hH
 refine hK10 _ _ ?_
 (try clear hK10 K10)
 refine wp_cond_false (by show BV _ = _; exact congrArg BV (decide_eq_false (by omega))) ?_
 refine wrt [.p 0, .p 1, .e 2] ?_
 refine pp rfl rfl (pr_slice_arr_all rfl Tryd.underlying160 sz5) ?_;simp only [nf]
 (try simp only [Nat.mul_one, Nat.zero_add, Nat.add_sub_cancel_left])
 refine pm ?_;simp only [nf]
 refine plan_copy 1 rfl rfl hH rfl (fun w' hH => ((hk.chg hH.chg)).csrc) rfl rfl Tryd.underlying29 sz5 (by omega) ?_
 clear hH
 intro w12 hH
 (try simp only [nf, nh, Value.cells, arrB_set] at hH ⊢)
 refine plan_nil hH ?_
 clear hH
 intro w13 hH
 replace hH := hH.say 1 rfl (arr8_congr (g := macK kl) fun j hj => copy_key kl h64 j)
 simp only [List.set_cons_zero, List.set_cons_succ] at hH
 refine hK9 _ _ ?_
 (try clear hK9 K9)
 refine wp_seq_k ?_
 intro K14 hK14
 refine wrt [.x 0, .x 1, .p 2, .p 3] ?_
 refine plan_callx rfl rfl hH cf22 (fun w' hH => shaNew_calls w' (hT.grow hH.chg)) rfl (fun _ _ _ h => h.choose_spec.2.1) ?_
 clear hH
 intro w15 v16 w17 hH hp18
 obtain ⟨b19, rfl, hg, hfr, hbk⟩ := hp18
 replace hH := (hH.callnew hg hbk hfr).addnone 5 #[]
 clear hg hfr hbk
 (try simp only [nf, nh, Value.cells, arrB_set] at hH ⊢)
 (try simp only [nf])
 refine plan_callx rfl rfl hH cf22 (fun w' hH => shaNew_calls w' (hT.grow hH.chg)) rfl (fun _ _ _ h => h.choose_spec.2.1) ?_
 clear hH
 intro w20 v21 w22 hH hp23
 obtain ⟨b24, rfl, hg, hfr, hbk⟩ := hp23
 replace hH := (hH.callnew hg hbk hfr).addnone 5 #[]
 clear hg hfr hbk
 (try simp only [nf, nh, Value.cells, arrB_set] at hH ⊢)
 (try simp only [nf])
 refine pa (pa ?_);simp only [nf]
 refine plan_nil hH ?_
 clear hH
 intro w25 hH
 refine hK14 _ _ ?_
 (try clear hK14 K14)
 refine wp_seq_k ?_
 intro K26 hK26
 refine wp_seq_k ?_
 intro K27 hK27
 refine wrt [.q 0, .p 1] ?_
 refine pq rfl rfl (qr_loadW rfl (hH.blk 1 rfl) Tryd.underlying160 rfl sz160 (by simp)) ?_;simp only [nf]
 refine pk 0 ?_;simp only [nf]
 refine plan_nil hH ?_
 clear hH
 intro w28 hH
 refine hK27 _ _ ?_
 (try clear hK27 K27)
 refine wp_block ?_
 obtain ⟨kc29, hkc30, hN⟩ := hH.name 0 rfl
 replace hH := hN; clear hN; simp only [List.set_cons_zero, List.set_cons_succ] at hH
 obtain ⟨kc31, hkc32, hN⟩ := hH.name 1 rfl
 replace hH := hN; clear hN; simp only [List.set_cons_zero, List.set_cons_succ] at hH
 refine wp_loopT [26] [10, 27, 28, 29, 30, 31, 32, 33, 34, 35, 36, 37, 38, 39] (fun (n33 : Nat) (vs : List Value) (w' : World) => ∃ (i : Nat) (oa : Option Nat) (fa na ca : Nat) (sa : Array Value) (ob : Option Nat) (fb nb cb : Nat) (sb : Array Value), vs = [I64 (i : Nat)] ∧ Hp [] w w' [(some b2, 22, kc29), (some b6, 160, kc31), (some b19, 120, hashL (macI kl i) (ownO oa fa na ca)), (oa, 5, sa), (some b24, 120, hashL (macO kl i) (ownO ob fb nb cb)), (ob, 5, sb)] ∧ n33 = 64 - i ∧ i ≤ 64 ∧ OwnD oa fa na ca sa (restL (macI kl i)) ∧ OwnD ob fb nb cb sb (restL (macO kl i))) (64 - 0) (by kernel_rfl) ?_ ?_
 ·
  simp only [ga]
  refine ⟨0, none, 0, 0, 0, #[], none, 0, 0, 0, #[], rfl, ?_, rfl, ?_, ?_, ?_⟩
  ·
   exact hH
  · first | omega | (omega)
  · first | omega | (exact OwnD.rest0)
  · first | omega | (exact OwnD.rest0)
 clear hH
 intro n33 vs34 w35 hR36 d0
 obtain ⟨i, oa, fa, na, ca, sa, ob, fb, nb, cb, sb, rfl, hH, hn37, hf38, hOa, hOb⟩ := hR36
 simp only [putAll, putD, List.set_cons_zero, List.set_cons_succ, Nat.zero_add, Nat.reduceAdd]
 subst hkc30 hkc32
 refine wp_seq_k ?_
 intro K39 hK39
 refine wrt [.p 0] ?_
 refine pp rfl rfl (pr_bin rfl rfl (by first | exact bin_lss_n (n := 64)  | exact bin_lss_i)) ?_;simp only [nf]
 refine plan_nil hH ?_
 clear hH
 intro w40 hH
 refine hK39 _ _ ?_
 (try clear hK39 K39)
 refine wp_seq_k ?_
 intro K41 hK41
 refine wp_cond_split rfl (fun hc42 => ?_) (fun hc42 => ?_)
 ·
  (try simp only [cnd] at hc42)
  refine wp_skip ?_
  refine hK41 _ _ ?_
  (try clear hK41 K41)
  refine wp_seq_k ?_
  intro K43 hK43
  refine wp_block ?_
  refine wp_seq_k ?_
  intro K44 hK44
  refine wrt [.p 0, .p 1] ?_
  refine pp rfl rfl (pr_index_arr rfl rfl Tryd.underlying160 sz5 (notAgg Tryd.underlying5 rfl) (by first | omega | exact lt_u8 _) (arr8_get (by first | omega | exact lt_u8 _))) ?_;simp only [nf]
  refine pa ?_;simp only [nf]
  refine plan_nil hH ?_
  clear hH
  intro w45 hH
  refine hK44 _ _ ?_
  (try clear hK44 K44)
  refine wp_seq_k ?_
  intro K46 hK46
  refine wrt [.p 0, .p 1, .p 2, .x 3, .e 4] ?_
  refine pm (pm ?_);simp only [nf]
  refine pp rfl rfl (pr_bin rfl rfl (bin_xor_u8 _ 54)) ?_;simp only [nf]
  refine plan_buildSlice rfl rfl hH Tryd.underlying29 (by rfl) (bs1 _) ?_
  clear hH
  intro b47 w48 hH
  (try simp only [nf, nh, Value.cells, arrB_set] at hH ⊢)
  refine plan_calle rfl rfl hH cf23 (fun w' hH => shaWrite_calls _ _ _ _ _ _ _ _ _ w' (hT.grow hH.chg) (hH.no hT 2 3 rfl rfl (by decide)) (hH.no hT 2 3 rfl rfl (by decide)) (hH.blk 2 rfl) hOa (hH.opt2 2 3 rfl rfl (by decide)) (fun w2 hc => (OwnC.sl (hH.keep2 2 3 6 rfl rfl rfl (by decide) (by decide) hc) 0 rfl (OwnC.of_bytes rfl))) (by first | omega | (simp <;> omega))) rfl ?_
  clear hH
  intro w49 v50 w51 hH hp52
  obtain ⟨rfl, o53, f54, n55, c56, cs57, hg, hbk, hO58, hox⟩ := hp52
  replace hH := hH.callw2 2 3 rfl rfl (by decide) hg hbk hox
  clear hg hbk hox
  (try simp only [nf, nh, Value.cells, arrB_set] at hH ⊢)
  refine plan_nil hH ?_
  clear hH
  intro w59 hH
  refine hK46 _ _ ?_
  (try clear hK46 K46)
  refine wrt [.p 0, .p 1, .p 2, .x 3, .e 4] ?_
  refine pm (pm ?_);simp only [nf]
  refine pp rfl rfl (pr_bin rfl rfl (bin_xor_u8 _ 92)) ?_;simp only [nf]
  refine plan_buildSlice rfl rfl hH Tryd.underlying29 (by rfl) (bs1 _) ?_
  clear hH
  intro b60 w61 hH
  (try simp only [nf, nh, Value.cells, arrB_set] at hH ⊢)
  refine plan_calle rfl rfl hH cf23 (fun w' hH => shaWrite_calls _ _ _ _ _ _ _ _ _ w' (hT.grow hH.chg) (hH.no hT 4 5 rfl rfl (by decide)) (hH.no hT 4 5 rfl rfl (by decide)) (hH.blk 4 rfl) hOb (hH.opt2 4 5 rfl rfl (by decide)) (fun w2 hc => (OwnC.sl (hH.keep2 4 5 7 rfl rfl rfl (by decide) (by decide) hc) 0 rfl (OwnC.of_bytes rfl))) (by first | omega | (simp <;> omega))) rfl ?_
  clear hH
  intro w62 v63 w64 hH hp65
  obtain ⟨rfl, o66, f67, n68, c69, cs70, hg, hbk, hO71, hox⟩ := hp65
  replace hH := hH.callw2 4 5 rfl rfl (by decide) hg hbk hox
  clear hg hbk hox
  (try simp only [nf, nh, Value.cells, arrB_set] at hH ⊢)
  refine plan_nil hH ?_
  clear hH
  intro w72 hH
  refine hK43 _ _ ?_
  (try clear hK43 K43)
  refine wrt [.p 0, .p 1] ?_
  refine pp rfl rfl (pr_bin rfl rfl (by first | exact bin_add_n (n := 1) (by omega) | exact bin_add_i (by omega) (by omega))) ?_;simp only [nf]
  refine pm ?_;simp only [nf]
  refine plan_nil hH ?_
  clear hH
  intro w73 hH
  (try simp only [Exit.then, Exit.inBlock, ↓reduceIte, Nat.reduceEqDiff])
  refine ⟨64 - (i + 1), ?_, _, rfl, by kernel_rfl, ?_⟩
  · first | omega | (omega)
  simp only [ga]
  refine ⟨i + 1, o53, f54, n55, c56, cs57, o66, f67, n68, c69, cs70, rfl, ?_, rfl, ?_, ?_, ?_⟩
  ·
   rw [macI_succ, macO_succ] at hH
   exact hH.take 6
  · first | omega | (omega)
  · first | omega | (rw [← macI_succ]; exact hO58)
  · first | omega | (rw [← macO_succ]; exact hO71)
 ·
  (try simp only [cnd] at hc42)
  obtain rfl : i = 64 := by omega
  refine wp_exit ?_
  (try simp only [Exit.then, Exit.inBlock, ↓reduceIte, Nat.reduceEqDiff])
  refine hK26 _ _ ?_
  (try clear hK26 K26)
  refine wp_seq_k ?_
  intro K74 hK74
  refine wrt [.p 0, .p 1, .e 2] ?_
  refine pm (pm ?_);simp only [nf]
  refine plan_calle rfl rfl hH cf23 (fun w' hH => shaWrite_calls _ _ _ _ _ _ _ _ _ w' (hT.grow hH.chg) (hH.no hT 2 3 rfl rfl (by decide)) (hH.no hT 2 3 rfl rfl (by decide)) (hH.blk 2 rfl) hOa (hH.opt2 2 3 rfl rfl (by decide)) (fun w2 hc => (hb.chg (hH.sure2 2 3 rfl rfl hc))) (by first | omega | (simp <;> omega))) rfl ?_
  clear hH
  intro w75 v76 w77 hH hp78
  obtain ⟨rfl, o79, f80, n81, c82, cs83, hg, hbk, hO84, hox⟩ := hp78
  replace hH := hH.callw2 2 3 rfl rfl (by decide) hg hbk hox
  clear hg hbk hox
  (try simp only [nf, nh, Value.cells, arrB_set] at hH ⊢)
  refine plan_nil hH ?_
  clear hH
  intro w85 hH
  refine hK74 _ _ ?_
  (try clear hK74 K74)
  refine wp_seq_k ?_
  intro K86 hK86
  refine wrt [.p 0, .q 1, .x 2, .e 3] ?_
  refine pm ?_;simp only [nf]
  refine pq rfl rfl (qr_call cf24 (fun w' hw => shaSum_calls _ _ _ w' (hT.grow (hH.chg.trans hw)) (hw.nil_blk (hH.blk 2 rfl)) ((OwnD.sl hH 3 rfl hO84).chg hw) (by first | omega | (simp <;> omega))) rfl) ?_;simp only [nf]
  refine plan_alloc rfl rfl hH zc22 ?_
  clear hH
  intro b87 w88 hH
  (try simp only [nf, nh, Value.cells, arrB_set] at hH ⊢)
  refine plan_storeW 6 rfl rfl hH rfl rfl rfl one_arr8 sz22 (by simp) (by simp) ?_
  clear hH
  intro w89 hH
  (try simp only [nf, nh, Value.cells, arrB_set] at hH ⊢)
  refine plan_nil hH ?_
  clear hH
  intro w90 hH
  refine hK86 _ _ ?_
  (try clear hK86 K86)
  refine wp_seq_k ?_
  intro K91 hK91
  refine wrt [.p 0, .p 1, .e 2] ?_
  refine pm ?_;simp only [nf]
  refine pp rfl rfl (pr_slice_arr_all rfl Tryd.underlying22 sz5) ?_;simp only [nf]
  (try simp only [Nat.mul_one, Nat.zero_add, Nat.add_sub_cancel_left])
  refine plan_calle rfl rfl hH cf23 (fun w' hH => shaWrite_calls _ _ _ _ _ _ _ _ _ w' (hT.grow hH.chg) (hH.no hT 4 5 rfl rfl (by decide)) (hH.no hT 4 5 rfl rfl (by decide)) (hH.blk 4 rfl) hOb (hH.opt2 4 5 rfl rfl (by decide)) (fun w2 hc => (Sl.of_arr8 ((hH.keep2 4 5 6 rfl rfl rfl (by decide) (by decide) hc).blk 0 rfl) (by omega) (by omega))) (by first | omega | (simp <;> omega))) rfl ?_
  clear hH
  intro w92 v93 w94 hH hp95
  obtain ⟨rfl, o96, f97, n98, c99, cs100, hg, hbk, hO101, hox⟩ := hp95
  replace hH := hH.callw2 4 5 rfl rfl (by decide) hg hbk hox
  clear hg hbk hox
  (try simp only [nf, nh, Value.cells, arrB_set] at hH ⊢)
  refine plan_nil hH ?_
  clear hH
  intro w102 hH
  refine hK91 _ _ ?_
  (try clear hK91 K91)
  refine wp_seq_k ?_
  intro K103 hK103
  refine wrt [.p 0, .q 1, .e 2] ?_
  refine pm ?_;simp only [nf]
  refine pq rfl rfl (qr_call cf24 (fun w' hw => shaSum_calls _ _ _ w' (hT.grow (hH.chg.trans hw)) (hw.nil_blk (hH.blk 4 rfl)) ((OwnD.sl hH 5 rfl hO101).chg hw) (by first | omega | (simp <;> omega))) rfl) ?_;simp only [nf]
  refine plan_storeW 0 rfl rfl hH rfl rfl rfl one_arr8 sz22 (by simp) (by simp) ?_
  clear hH
  intro w104 hH
  (try simp only [nf, nh, Value.cells, arrB_set] at hH ⊢)
  refine plan_nil hH ?_
  clear hH
  intro w105 hH
  refine hK103 _ _ ?_
  (try clear hK103 K103)
  refine wp_ret ?_
  (try simp only [Exit.then, Exit.inBlock, ↓reduceIte, Nat.reduceEqDiff])
  refine BP.retc rfl rfl (hH.blk 0 rfl) Tryd.underlying22 rfl sz22 (by simp) ?_
  exact ⟨rfl, hH.chg⟩
end Go.Proofs.YtdkjdioccpoacaaDoor
set_option linter.unusedSimpArgs false
set_option linter.unusedVariables false
set_option maxRecDepth 100000
set_option maxHeartbeats 4000000
namespace Go.Proofs.YtdkjdioccpoacaaDoor
open Go
open List (getD_cons_zero getD_cons_succ set_cons_zero set_cons_succ)
def macL (sl bl : List UInt8) : List UInt8 := (List.range 32).map (macD sl bl)
@[simp] theorem macL_len (sl bl : List UInt8) : (macL sl bl).length = 32 := by simp [macL]
def expT (sl il : List UInt8) : Nat → List UInt8
  | 0 => []
  | k + 1 => macL sl (expT sl il k ++ il ++ [UInt8.ofNat (k + 1)])
def expO (sl il : List UInt8) : Nat → List UInt8
  | 0 => []
  | k + 1 => expO sl il k ++ expT sl il (k + 1)
theorem expT_succ (sl il : List UInt8) (k : Nat) : expT sl il (k + 1) = macL sl (expT sl il k ++ il ++ [UInt8.ofNat (k + 1)]) := rfl
theorem expO_succ (sl il : List UInt8) (k : Nat) : expO sl il (k + 1) = expO sl il k ++ macL sl (expT sl il k ++ il ++ [UInt8.ofNat (k + 1)]) := rfl
def tN : Nat → Nat
  | 0 => 0
  | _ + 1 => 32
theorem tN_le (k : Nat) : tN k ≤ 32 := by cases k <;> simp [tN]
theorem u8_succ (n : Nat) : UInt8.ofNat n + 1 = UInt8.ofNat (n + 1) := by
  apply UInt8.toNat_inj.1
  simp [UInt8.toNat_add]
def infoL (nm : ByteArray) (cl : List UInt8) (n : Nat) : List UInt8 :=
  [UInt8.ofNat (n / 2 ^ 8), UInt8.ofNat n, UInt8.ofNat (6 + nm.size)] ++ [116, 108, 115, 49, 51, 32] ++ nm.data.toList ++ [UInt8.ofNat cl.length] ++ cl
def labL (sl : List UInt8) (nm : ByteArray) (cl : List UInt8) (n : Nat) : List UInt8 := (expO sl (infoL nm cl n) ((n + 31) / 32)).take n
theorem Hp.two {S : List Nat} {w0 w : World} {L : List Own} (h : Hp S w0 w L) (i j : Nat) {e e' : Own} (hi : L[i]? = some e) (hj : L[j]? = some e') (hij : i ≠ j) : Hp S w0 w [e, e'] := by
  have h1 : Hp S w0 w [e] := (h.take 0).add e (fun b hb => h.own e (List.mem_of_getElem? hi) b hb) (fun x hx => by simp at hx)
  refine h1.add e' (fun b hb => h.own e' (List.mem_of_getElem? hj) b hb) (fun x hx b hb hxb => ?_)
  simp only [List.mem_singleton] at hx
  subst hx
  exact hij (h.apart i j b (by rw [hi]; exact hxb) (by rw [hj]; exact hb))
theorem expand_calls (sv iv : Value) (sl il : List UInt8) (n : Nat) (w : World) (hT : Tabs w) (hs : Sl w sv sl) (hi : Sl w iv il) (h64 : sl.length ≤ 64) (hil : il.length ≤ 10000) (hn : n ≤ 8160) : Ret Tryd.prog 25 #[sv, iv, I64 n] w fun v w' => ∃ o cs, v = .tuple #[ownO o 0 n n, I64 (0 : Nat)] ∧ Chg [] w w' ∧ OwnD o 0 n n cs ((expO sl il ((n + 31) / 32)).take n) ∧ ∀ b, o = some b → w.heap.size ≤ b ∧ Blk w' b 5 cs := by
 refine Ret.enter Tryd.func25 rfl ?_
 simp only [Tryd.ntmps25, fe, Nat.reduceAdd, Nat.reduceSub]
 have hH := Hp.start [] w
 refine wp_seq_k ?_
 intro K1 hK1
 refine wrt [.p 0, .p 1] ?_
 refine pa (pka 0 ?_);simp only [nf]
 refine plan_nil hH ?_
 clear hH
 intro w2 hH
 refine hK1 _ _ ?_
 (try clear hK1 K1)
 refine wp_seq_k ?_
 intro K3 hK3
 refine wp_seq_k ?_
 intro K4 hK4
 refine wrt [.p 0, .p 1, .p 2, .p 3, .p 4, .p 5] ?_
 refine pm ?_;simp only [nf]
 refine pp rfl rfl (pr_bin rfl rfl (by first | exact bin_lss_n (n := 0)  | exact bin_lss_i)) ?_;simp only [nf]
 refine plan_p (v := BV false) rfl rfl (pr_move_v (by show BV _ = _; exact congrArg BV (decide_eq_false (by omega)))) ?_
 (try simp only [nf])
 refine pp rfl rfl pr_move ?_;simp only [nf]
 refine pp rfl rfl (pr_bin rfl rfl (by first | exact bin_gtr_n (n := 8160)  | exact bin_gtr_i)) ?_;simp only [nf]
 refine pp rfl rfl (pr_pick_f rfl) ?_;simp only [nf]
 refine plan_nil hH ?_
 clear hH
 intro w5 hH
 refine hK4 _ _ ?_
 (try clear hK4 K4)
 refine wp_cond_false (by show BV _ = _; exact congrArg BV (decide_eq_false (by omega))) ?_
 refine wp_skip ?_
 refine hK3 _ _ ?_
 (try clear hK3 K3)
 refine wp_seq_k ?_
 intro K6 hK6
 refine wrt [.p 0, .p 1] ?_
 refine pa (pa ?_);simp only [nf]
 refine plan_nil hH ?_
 clear hH
 intro w7 hH
 refine hK6 _ _ ?_
 (try clear hK6 K6)
 refine wp_seq_k ?_
 intro K8 hK8
 refine wp_seq_k ?_
 intro K9 hK9
 refine wrt [.p 0] ?_
 refine pa ?_;simp only [nf]
 refine plan_nil hH ?_
 clear hH
 intro w10 hH
 refine hK9 _ _ ?_
 (try clear hK9 K9)
 refine wp_block ?_
 refine wp_loopT [8, 9, 10] [11, 12, 19, 20, 21, 22, 23, 24, 25, 26, 27, 28, 29, 30, 31, 32, 33, 34, 35, 36, 37, 38, 39] (fun (n11 : Nat) (vs : List Value) (w' : World) => ∃ (k : Nat) (o : Option Nat) (c : Nat) (cs : Array Value) (ot : Option Nat) (tc : Nat) (ts : Array Value), vs = [own o (32 * k) c, own ot (tN k) tc, V8 (UInt8.ofNat (k + 1))] ∧ Hp [] w w' [(o, 5, cs), (ot, 22, ts)] ∧ n11 = (n + 31) / 32 - k ∧ k ≤ (n + 31) / 32 ∧ OwnC o (32 * k) c 1 cs ((expO sl il k).map V8) ∧ OwnC ot (tN k) tc 1 ts ((expT sl il k).map V8)) ((n + 31) / 32 - 0) (by kernel_rfl) ?_ ?_
 ·
  simp only [ga]
  refine ⟨0, none, 0, #[], none, 0, #[], rfl, ?_, rfl, ?_, ?_, ?_⟩
  ·
   exact (hH.nil _).nil _
  · first | omega | (omega)
  · first | omega | (exact OwnC.start 1)
  · first | omega | (exact OwnC.start 1)
 clear hH
 intro n11 vs12 w13 hR14 d0
 obtain ⟨k, o, c, cs, ot, tc, ts, rfl, hH, hn15, hf16, hO, hOt⟩ := hR14
 simp only [putAll, putD, List.set_cons_zero, List.set_cons_succ, Nat.zero_add, Nat.reduceAdd]
 have htn := tN_le k
 have hlt := hOt.d.len
 have hlo := hO.d.len
 refine wp_seq_k ?_
 intro K17 hK17
 refine wp_seq_k ?_
 intro K18 hK18
 refine wrt [.p 0, .p 1, .p 2, .p 3] ?_
 refine pm ?_;simp only [nf]
 refine pp rfl rfl (pr_len_sl rfl Tryd.underlying29) ?_;simp only [nf]
 refine pm ?_;simp only [nf]
 refine pp rfl rfl (pr_bin rfl rfl (by first | exact bin_lss_n  | exact bin_lss_i)) ?_;simp only [nf]
 refine plan_nil hH ?_
 clear hH
 intro w19 hH
 refine hK18 _ _ ?_
 (try clear hK18 K18)
 refine wp_cond_split rfl (fun hc20 => ?_) (fun hc20 => ?_)
 ·
  (try simp only [cnd] at hc20)
  refine wp_skip ?_
  refine hK17 _ _ ?_
  (try clear hK17 K17)
  refine wp_seq_k ?_
  intro K21 hK21
  refine wp_block ?_
  refine wp_seq_k ?_
  intro K22 hK22
  refine wrt [.x 0, .p 1, .e 2, .p 3, .e 4, .p 5, .x 6, .e 7, .p 8] ?_
  refine plan_buildSlice rfl rfl hH Tryd.underlying29 (by rfl) (bs0 ) ?_
  clear hH
  intro b23 w24 hH
  (try simp only [nf, nh, Value.cells, arrB_set] at hH ⊢)
  refine pm ?_;simp only [nf]
  refine plan_append 2 rfl rfl hH rfl (OwnC.of_bytes rfl) (fun w' hH => ((OwnC.sl hH 1 rfl hOt)).src) rfl rfl Tryd.underlying29 Tryd.underlying29 (.inl ⟨_, rfl⟩) sz5 bz5 ze5 rfl (by first | omega | (simp <;> omega)) (by first | omega | (simp <;> omega)) ?_
  clear hH
  intro o25 cap26 cs27 w28 hO29 hH
  (try simp only [nf] at hH ⊢)
  (try simp only [nf, nh, Value.cells, arrB_set] at hH ⊢)
  try rw [← List.map_append] at hO29
  (try simp only [Nat.zero_add, List.nil_append, List.length_nil] at hO29 ⊢)
  refine pm ?_;simp only [nf]
  refine plan_append 2 rfl rfl hH rfl hO29 (fun w' hH => ((hi.chg hH.chg)).src) rfl rfl Tryd.underlying29 Tryd.underlying29 (.inl ⟨_, rfl⟩) sz5 bz5 ze5 rfl (by first | omega | (simp <;> omega)) (by first | omega | (simp <;> omega)) ?_
  clear hH
  intro o30 cap31 cs32 w33 hO34 hH
  (try simp only [nf] at hH ⊢)
  (try simp only [nf, nh, Value.cells, arrB_set] at hH ⊢)
  try rw [← List.map_append] at hO34
  (try simp only [Nat.zero_add, List.nil_append, List.length_nil] at hO34 ⊢)
  refine pm ?_;simp only [nf]
  refine plan_buildSlice rfl rfl hH Tryd.underlying29 (by rfl) (bs1 _) ?_
  clear hH
  intro b35 w36 hH
  (try simp only [nf, nh, Value.cells, arrB_set] at hH ⊢)
  refine plan_append 2 rfl rfl hH rfl hO34 (fun w' hH => ((OwnC.sl hH 3 rfl (OwnC.of_bytes rfl))).src) rfl rfl Tryd.underlying29 Tryd.underlying29 (.inl ⟨_, rfl⟩) sz5 bz5 ze5 rfl (by first | omega | (simp <;> omega)) (by first | omega | (simp <;> omega)) ?_
  clear hH
  intro o37 cap38 cs39 w40 hO41 hH
  (try simp only [nf] at hH ⊢)
  (try simp only [nf, nh, Value.cells, arrB_set] at hH ⊢)
  try rw [← List.map_append] at hO41
  (try simp only [Nat.zero_add, List.nil_append, List.length_nil] at hO41 ⊢)
  refine pa ?_;simp only [nf]
  refine plan_nil hH ?_
  clear hH
  intro w42 hH
  refine hK22 _ _ ?_
  (try clear hK22 K22)
  refine wp_seq_k ?_
  intro K43 hK43
  refine wrt [.p 0, .p 1, .q 2, .x 3, .e 4] ?_
  refine pm (pm ?_);simp only [nf]
  refine pq rfl rfl (qr_call cf58 (fun w' hw => mac_calls _ _ _ _ w' (hT.grow (hH.chg.trans hw)) ((hs.chg hH.chg).chg hw) ((OwnC.sl hH 2 rfl hO41).chg hw) (by first | assumption | omega | (simp <;> omega)) (by first | omega | (simp <;> omega))) rfl) ?_;simp only [nf]
  refine plan_alloc rfl rfl hH zc22 ?_
  clear hH
  intro b44 w45 hH
  (try simp only [nf, nh, Value.cells, arrB_set] at hH ⊢)
  refine plan_storeW 4 rfl rfl hH rfl rfl rfl one_arr8 sz22 (by simp) (by simp) ?_
  clear hH
  intro w46 hH
  (try simp only [nf, nh, Value.cells, arrB_set] at hH ⊢)
  refine plan_nil hH ?_
  clear hH
  intro w47 hH
  refine hK43 _ _ ?_
  (try clear hK43 K43)
  refine wp_seq_k ?_
  intro K48 hK48
  refine wrt [.p 0, .p 1] ?_
  refine pp rfl rfl (pr_slice_arr_all rfl Tryd.underlying22 sz5) ?_;simp only [nf]
  (try simp only [Nat.mul_one, Nat.zero_add, Nat.add_sub_cancel_left])
  refine pa ?_;simp only [nf]
  refine plan_nil hH ?_
  clear hH
  intro w49 hH
  refine hK48 _ _ ?_
  (try clear hK48 K48)
  refine wrt [.p 0, .p 1, .e 2, .p 3] ?_
  refine pm (pm ?_);simp only [nf]
  refine plan_append 0 rfl rfl hH rfl hO (fun w' hH => ((Sl.of_arr8 (hH.blk 4 rfl) (by omega) (by omega))).src) rfl rfl Tryd.underlying29 Tryd.underlying29 (.inl ⟨_, rfl⟩) sz5 bz5 ze5 rfl (by first | omega | (simp <;> omega)) (by first | omega | (simp <;> omega)) ?_
  clear hH
  intro o50 cap51 cs52 w53 hO54 hH
  (try simp only [nf] at hH ⊢)
  (try simp only [nf, nh, Value.cells, arrB_set] at hH ⊢)
  try rw [← List.map_append] at hO54
  (try simp only [Nat.zero_add, List.nil_append, List.length_nil] at hO54 ⊢)
  refine pa ?_;simp only [nf]
  refine plan_nil hH ?_
  clear hH
  intro w55 hH
  refine hK21 _ _ ?_
  (try clear hK21 K21)
  refine wrt [.p 0, .p 1, .p 2] ?_
  refine pm ?_;simp only [nf]
  refine pp rfl rfl (pr_bin rfl rfl (bin_add_u8 _ 1)) ?_;simp only [nf]
  refine pa ?_;simp only [nf]
  refine plan_nil hH ?_
  clear hH
  intro w56 hH
  (try simp only [Exit.then, Exit.inBlock, ↓reduceIte, Nat.reduceEqDiff])
  rw [u8_succ]
  refine ⟨(n + 31) / 32 - (k + 1), ?_, _, rfl, by kernel_rfl, ?_⟩
  · first | omega | (omega)
  simp only [ga]
  refine ⟨k + 1, o50, cap51, cs52, some b44, 32, arr8 32 (macD sl (expT sl il k ++ il ++ [UInt8.ofNat (k + 1)])), rfl, ?_, rfl, ?_, ?_, ?_⟩
  ·
   exact hH.two 0 4 rfl rfl (by decide)
  · first | omega | (omega)
  · first | omega | (rw [expO_succ]; exact hO54)
  · first | omega | (rw [expT_succ]; exact OwnC.made)
 ·
  (try simp only [cnd] at hc20)
  obtain rfl : k = (n + 31) / 32 := by omega
  refine wp_exit ?_
  (try simp only [Exit.then, Exit.inBlock, ↓reduceIte, Nat.reduceEqDiff])
  refine hK8 _ _ ?_
  (try clear hK8 K8)
  refine wp_seq_k ?_
  intro K57 hK57
  refine wrt [.p 0, .p 1, .p 2, .p 3, .p 4, .p 5] ?_
  refine pm (pm (pm ?_));simp only [nf]
  refine pp rfl rfl (pr_slice_O3 rfl rfl rfl Tryd.underlying29 sz5 (Nat.le_trans (by omega) (OwnC.le hO))) ?_;simp only [nf]
  refine pa (pka 0 ?_);simp only [nf]
  refine plan_nil hH ?_
  clear hH
  intro w58 hH
  refine hK57 _ _ ?_
  (try clear hK57 K57)
  refine wp_ret ?_
  (try simp only [Exit.then, Exit.inBlock, ↓reduceIte, Nat.reduceEqDiff])
  refine BP.ret2 rfl rfl rfl ?_
  exact ⟨_, _, rfl, hH.chg, hO.cut3 (by omega), hH.owned 0 rfl⟩
theorem label2_calls (sv cv : Value) (nm : ByteArray) (sl cl : List UInt8) (n : Nat) (w : World) (hT : Tabs w) (hs : Sl w sv sl) (hc : Sl w cv cl) (h64 : sl.length ≤ 64) (hnm : nm.size ≤ 249) (hcl : cl.length ≤ 255) (hn : n ≤ 8160) : Ret Tryd.prog 9 #[sv, .string nm, cv, I64 n] w fun v w' => ∃ o cs, v = .tuple #[ownO o 0 n n, I64 (0 : Nat)] ∧ Chg [] w w' ∧ OwnD o 0 n n cs (labL sl nm cl n) ∧ ∀ b, o = some b → w.heap.size ≤ b ∧ Blk w' b 5 cs := by
 have h6 : (⟨#[116, 108, 115, 49, 51, 32]⟩ : ByteArray).size = 6 := rfl
 refine Ret.enter Tryd.func9 rfl ?_
 simp only [Tryd.ntmps9, fe, Nat.reduceAdd, Nat.reduceSub]
 have hH := Hp.start [] w
 refine wp_seq_k ?_
 intro K1 hK1
 refine wrt [.p 0, .p 1] ?_
 refine pa (pka 0 ?_);simp only [nf]
 refine plan_nil hH ?_
 clear hH
 intro w2 hH
 refine hK1 _ _ ?_
 (try clear hK1 K1)
 refine wp_seq_k ?_
 intro K3 hK3
 refine wp_block ?_
 refine wp_seq_k ?_
 intro K4 hK4
 refine wrt [.p 0, .p 1, .p 2, .p 3, .p 4, .p 5, .p 6] ?_
 refine pm ?_;simp only [nf]
 refine pp rfl rfl (pr_bin rfl rfl (by first | exact bin_lss_n (n := 0)  | exact bin_lss_i)) ?_;simp only [nf]
 refine plan_p (v := BV false) rfl rfl (pr_move_v (by show BV _ = _; exact congrArg BV (decide_eq_false (by omega)))) ?_
 (try simp only [nf])
 refine pp rfl rfl pr_move ?_;simp only [nf]
 refine pp rfl rfl (pr_bin rfl rfl (by first | exact bin_gtr_n (n := 8160)  | exact bin_gtr_i)) ?_;simp only [nf]
 refine pp rfl rfl (pr_pick_f rfl) ?_;simp only [nf]
 refine pa ?_;simp only [nf]
 refine plan_nil hH ?_
 clear hH
 intro w5 hH
 refine hK4 _ _ ?_
 (try clear hK4 K4)
 refine wp_cond_false (by show BV _ = _; exact congrArg BV (decide_eq_false (by omega))) ?_
 refine wp_seq_k ?_
 intro K6 hK6
 refine wrt [.p 0, .p 1, .p 2, .p 3, .p 4, .p 5, .p 6, .p 7, .p 8] ?_
 refine pm ?_;simp only [nf]
 refine pp rfl rfl (pr_len_str rfl Tryd.underlying9) ?_;simp only [nf]
 refine pp rfl rfl (pr_bin rfl rfl (by first | exact bin_gtr_n (n := 249)  | exact bin_gtr_i)) ?_;simp only [nf]
 refine plan_p (v := BV false) rfl rfl (pr_move_v (by show BV _ = _; exact congrArg BV (decide_eq_false (by omega)))) ?_
 (try simp only [nf])
 refine pp rfl rfl pr_move ?_;simp only [nf]
 refine pp rfl rfl (pr_len_Sl (hc.chg hH.chg) rfl Tryd.underlying29) ?_;simp only [nf]
 refine pp rfl rfl (pr_bin rfl rfl (by first | exact bin_gtr_n (n := 255)  | exact bin_gtr_i)) ?_;simp only [nf]
 refine pp rfl rfl (pr_pick_f rfl) ?_;simp only [nf]
 refine pa ?_;simp only [nf]
 refine plan_nil hH ?_
 clear hH
 intro w7 hH
 refine hK6 _ _ ?_
 (try clear hK6 K6)
 refine wp_cond_false (by show BV _ = _; exact congrArg BV (decide_eq_false (by omega))) ?_
 refine wp_skip ?_
 refine hK3 _ _ ?_
 (try clear hK3 K3)
 refine wp_seq_k ?_
 intro K8 hK8
 refine wrt [.p 0, .p 1, .p 2, .p 3, .p 4, .p 5, .p 6, .p 7, .p 8, .x 9, .e 10, .p 11] ?_
 refine pm ?_;simp only [nf]
 refine pp rfl rfl (pr_bin rfl rfl (bin_shr_n (c := 8) (by decide))) ?_;simp only [nf]
 refine pp rfl rfl (pr_conv rfl (by first | exact cnv_n_u8 Tryd.underlying3 Tryd.underlying5 | exact cnv_i_u8 Tryd.underlying3 Tryd.underlying5)) ?_;simp only [nf]
 refine pm ?_;simp only [nf]
 refine pp rfl rfl (pr_conv rfl (by first | exact cnv_n_u8 Tryd.underlying3 Tryd.underlying5 | exact cnv_i_u8 Tryd.underlying3 Tryd.underlying5)) ?_;simp only [nf]
 refine pm ?_;simp only [nf]
 refine pp rfl rfl (pr_len_str rfl Tryd.underlying9) ?_;simp only [nf]
 refine pp rfl rfl (pr_bin rfl rfl (by first | exact bin_add_n (m := 6) (by omega) | exact bin_add_i (by omega) (by omega))) ?_;simp only [nf]
 refine pp rfl rfl (pr_conv rfl (by first | exact cnv_n_u8 Tryd.underlying3 Tryd.underlying5 | exact cnv_i_u8 Tryd.underlying3 Tryd.underlying5)) ?_;simp only [nf]
 refine plan_buildSlice rfl rfl hH Tryd.underlying29 (by rfl) (bs3 _ _ _) ?_
 clear hH
 intro b9 w10 hH
 (try simp only [nf, nh, Value.cells, arrB_set] at hH ⊢)
 refine plan_append 0 rfl rfl hH rfl (OwnC.of_bytes rfl) (fun w' hH => src_string _) rfl rfl Tryd.underlying29 Tryd.underlying9 (.inr rfl) sz5 bz5 ze5 rfl (by first | omega | (simp <;> omega)) (by first | omega | (simp <;> omega)) ?_
 clear hH
 intro o11 cap12 cs13 w14 hO15 hH
 (try simp only [nf] at hH ⊢)
 (try simp only [nf, nh, Value.cells, arrB_set] at hH ⊢)
 try rw [← List.map_append] at hO15
 (try simp only [Nat.zero_add, List.nil_append, List.length_nil] at hO15 ⊢)
 refine pa ?_;simp only [nf]
 refine plan_nil hH ?_
 clear hH
 intro w16 hH
 refine hK8 _ _ ?_
 (try clear hK8 K8)
 refine wp_seq_k ?_
 intro K17 hK17
 refine wrt [.p 0, .p 1, .e 2, .p 3, .p 4, .p 5, .x 6, .e 7, .p 8] ?_
 refine pm (pm ?_);simp only [nf]
 refine plan_append 0 rfl rfl hH rfl hO15 (fun w' hH => src_string _) rfl rfl Tryd.underlying29 Tryd.underlying9 (.inr rfl) sz5 bz5 ze5 rfl (by first | omega | (simp <;> omega)) (by first | omega | (simp <;> omega)) ?_
 clear hH
 intro o18 cap19 cs20 w21 hO22 hH
 (try simp only [nf] at hH ⊢)
 (try simp only [nf, nh, Value.cells, arrB_set] at hH ⊢)
 try rw [← List.map_append] at hO22
 (try simp only [Nat.zero_add, List.nil_append, List.length_nil] at hO22 ⊢)
 refine pm ?_;simp only [nf]
 refine pp rfl rfl (pr_len_Sl (hc.chg hH.chg) rfl Tryd.underlying29) ?_;simp only [nf]
 refine pp rfl rfl (pr_conv rfl (by first | exact cnv_n_u8 Tryd.underlying3 Tryd.underlying5 | exact cnv_i_u8 Tryd.underlying3 Tryd.underlying5)) ?_;simp only [nf]
 refine plan_buildSlice rfl rfl hH Tryd.underlying29 (by rfl) (bs1 _) ?_
 clear hH
 intro b23 w24 hH
 (try simp only [nf, nh, Value.cells, arrB_set] at hH ⊢)
 refine plan_append 0 rfl rfl hH rfl hO22 (fun w' hH => ((OwnC.sl hH 1 rfl (OwnC.of_bytes rfl))).src) rfl rfl Tryd.underlying29 Tryd.underlying29 (.inl ⟨_, rfl⟩) sz5 bz5 ze5 rfl (by first | omega | (simp <;> omega)) (by first | omega | (simp <;> omega)) ?_
 clear hH
 intro o25 cap26 cs27 w28 hO29 hH
 (try simp only [nf] at hH ⊢)
 (try simp only [nf, nh, Value.cells, arrB_set] at hH ⊢)
 try rw [← List.map_append] at hO29
 (try simp only [Nat.zero_add, List.nil_append, List.length_nil] at hO29 ⊢)
 refine pa ?_;simp only [nf]
 refine plan_nil hH ?_
 clear hH
 intro w30 hH
 refine hK17 _ _ ?_
 (try clear hK17 K17)
 refine wp_seq_k ?_
 intro K31 hK31
 refine wrt [.p 0, .p 1, .p 2, .e 3, .p 4, .x 5, .p 6, .p 7, .p 8, .p 9] ?_
 refine pm (pm (pm ?_));simp only [nf]
 refine plan_append 0 rfl rfl hH rfl hO29 (fun w' hH => ((hc.chg hH.chg)).src) rfl rfl Tryd.underlying29 Tryd.underlying29 (.inl ⟨_, rfl⟩) sz5 bz5 ze5 rfl (by first | omega | (simp <;> omega)) (by first | omega | (simp <;> omega)) ?_
 clear hH
 intro o32 cap33 cs34 w35 hO36 hH
 (try simp only [nf] at hH ⊢)
 (try simp only [nf, nh, Value.cells, arrB_set] at hH ⊢)
 try rw [← List.map_append] at hO36
 (try simp only [Nat.zero_add, List.nil_append, List.length_nil] at hO36 ⊢)
 refine pm ?_;simp only [nf]
 refine plan_callx rfl rfl hH cf25 (fun w' hH => expand_calls _ _ _ _ _ w' (hT.grow hH.chg) (hs.chg hH.chg) (OwnC.sl hH 0 rfl hO36) h64 (by first | omega | (simp <;> omega)) hn) rfl (fun _ _ _ h => by obtain ⟨_, _, _, hg, _⟩ := h; exact hg) ?_
 clear hH
 intro w37 v38 w39 hH hp40
 obtain ⟨o41, cs42, rfl, hg, hO43, hfr⟩ := hp40
 replace hH := hH.callown hg hfr
 clear hg hfr
 (try simp only [nf, nh, Value.cells, arrB_set] at hH ⊢)
 (try simp only [nf])
 refine pp rfl rfl (pr_extract rfl rfl) ?_;simp only [nf]
 refine pp rfl rfl (pr_extract rfl rfl) ?_;simp only [nf]
 refine pa (pa ?_);simp only [nf]
 refine plan_nil hH ?_
 clear hH
 intro w44 hH
 refine hK31 _ _ ?_
 (try clear hK31 K31)
 refine wp_ret ?_
 (try simp only [Exit.then, Exit.inBlock, ↓reduceIte, Nat.reduceEqDiff])
 refine BP.ret2 rfl rfl rfl ?_
 exact ⟨_, _, rfl, hH.chg, by assumption, hH.owned 2 rfl⟩
theorem label_calls (sv : Value) (nm : ByteArray) (sl : List UInt8) (n : Nat) (w : World) (hT : Tabs w) (hs : Sl w sv sl) (h64 : sl.length ≤ 64) (hnm : nm.size ≤ 249) (hn : n ≤ 8160) : Ret Tryd.prog 26 #[sv, .string nm, I64 n] w fun v w' => v = .string ⟨(labL sl nm [] n).toArray⟩ ∧ Chg [] w w' := by
 refine Ret.enter Tryd.func26 rfl ?_
 simp only [Tryd.ntmps26, fe, Nat.reduceAdd, Nat.reduceSub]
 have hH := Hp.start [] w
 refine wp_seq_k ?_
 intro K1 hK1
 refine wrt [.p 0] ?_
 refine pa ?_;simp only [nf]
 refine plan_nil hH ?_
 clear hH
 intro w2 hH
 refine hK1 _ _ ?_
 (try clear hK1 K1)
 refine wp_seq_k ?_
 intro K3 hK3
 refine wrt [.p 0, .p 1, .p 2, .x 3, .p 4, .p 5, .p 6, .p 7, .p 8] ?_
 refine pm (pm (pm ?_));simp only [nf]
 refine plan_callx rfl rfl hH cf9 (fun w' hH => label2_calls _ _ _ _ [] _ w' (hT.grow hH.chg) (hs.chg hH.chg) Sl.nil h64 hnm (by simp) hn) rfl (fun _ _ _ h => by obtain ⟨_, _, _, hg, _⟩ := h; exact hg) ?_
 clear hH
 intro w4 v5 w6 hH hp7
 obtain ⟨o8, cs9, rfl, hg, hO10, hfr⟩ := hp7
 replace hH := hH.callown hg hfr
 clear hg hfr
 (try simp only [nf, nh, Value.cells, arrB_set] at hH ⊢)
 (try simp only [nf])
 refine pm ?_;simp only [nf]
 refine pp rfl rfl (pr_extract rfl rfl) ?_;simp only [nf]
 refine pp rfl rfl (pr_extract rfl rfl) ?_;simp only [nf]
 refine pa (pa ?_);simp only [nf]
 refine plan_nil hH ?_
 clear hH
 intro w11 hH
 refine hK3 _ _ ?_
 (try clear hK3 K3)
 refine wp_seq_k ?_
 intro K12 hK12
 refine wrt [.p 0, .q 1, .p 2] ?_
 refine pm ?_;simp only [nf]
 refine pq rfl rfl (qr_b2s (OwnD.sl hH 0 rfl hO10) rfl Tryd.underlying29 Tryd.underlying5 Tryd.underlying9) ?_;simp only [nf]
 refine pa ?_;simp only [nf]
 refine plan_nil hH ?_
 clear hH
 intro w13 hH
 refine hK12 _ _ ?_
 (try clear hK12 K12)
 refine wp_ret ?_
 (try simp only [Exit.then, Exit.inBlock, ↓reduceIte, Nat.reduceEqDiff])
 refine BP.ret1 rfl rfl ?_
 exact ⟨rfl, hH.chg⟩
def kKey (sl : List UInt8) : ByteArray := ⟨(labL sl ⟨#[113, 117, 105, 99, 32, 107, 101, 121]⟩ [] 16).toArray⟩
def kIv (sl : List UInt8) : ByteArray := ⟨(labL sl ⟨#[113, 117, 105, 99, 32, 105, 118]⟩ [] 12).toArray⟩
def kMask (sl : List UInt8) : ByteArray := ⟨(labL sl ⟨#[113, 117, 105, 99, 32, 104, 112]⟩ [] 16).toArray⟩
theorem keysOf_calls (s : ByteArray) (w : World) (hT : Tabs w) (hs : s.size = 32) : Ret Tryd.prog 10 #[.string s] w fun v w' => v = .tuple #[.agg #[.string (kKey s.data.toList), .string (kIv s.data.toList), .string (kMask s.data.toList)], I64 (0 : Nat)] ∧ Chg [] w w' := by
 refine Ret.enter Tryd.func10 rfl ?_
 simp only [Tryd.ntmps10, fe, Nat.reduceAdd, Nat.reduceSub]
 have hH := Hp.start [] w
 refine wp_seq_k ?_
 intro K1 hK1
 refine wrt [.x 0, .p 1] ?_
 refine plan_alloc rfl rfl hH zc33 ?_
 clear hH
 intro b2 w3 hH
 (try simp only [nf, nh, Value.cells, arrB_set] at hH ⊢)
 refine pka 0 ?_;simp only [nf]
 refine plan_nil hH ?_
 clear hH
 intro w4 hH
 refine hK1 _ _ ?_
 (try clear hK1 K1)
 refine wp_seq_k ?_
 intro K5 hK5
 refine wp_seq_k ?_
 intro K6 hK6
 refine wrt [.p 0, .p 1, .p 2] ?_
 refine pm ?_;simp only [nf]
 refine pp rfl rfl (pr_len_str rfl Tryd.underlying9) ?_;simp only [nf]
 refine pp rfl rfl (pr_bin rfl rfl (by first | exact bin_neq_n (n := 32)  | exact bin_neq_i)) ?_;simp only [nf]
 refine plan_nil hH ?_
 clear hH
 intro w7 hH
 refine hK6 _ _ ?_
 (try clear hK6 K6)
 refine wp_cond_false (by show BV _ = _; rw [hs]; rfl) ?_
 refine wp_skip ?_
 refine hK5 _ _ ?_
 (try clear hK5 K5)
 refine wp_seq_k ?_
 intro K8 hK8
 refine wrt [.p 0, .x 1, .p 2] ?_
 refine pm ?_;simp only [nf]
 refine plan_s2b rfl rfl hH rfl Tryd.underlying9 Tryd.underlying29 Tryd.underlying5 ?_
 clear hH
 intro b9 cap10 cs11 w12 hO13 hH
 (try simp only [nf] at hH ⊢)
 (try simp only [nf, nh, Value.cells, arrB_set] at hH ⊢)
 refine pa ?_;simp only [nf]
 refine plan_nil hH ?_
 clear hH
 intro w14 hH
 refine hK8 _ _ ?_
 (try clear hK8 K8)
 refine wp_seq_k ?_
 intro K15 hK15
 refine wrt [.p 0, .q 1, .p 2, .q 3, .p 4, .q 5, .p 6, .e 7, .p 8] ?_
 refine pm ?_;simp only [nf]
 refine pq rfl rfl (qr_call cf26 (fun w' hw => label_calls _ _ _ _ w' (hT.grow (hH.chg.trans hw)) ((OwnC.sl hH 1 rfl hO13).chg hw) (by first | assumption | omega | (simp <;> omega)) (by first | decide | omega | (simp <;> omega)) (by first | decide | omega)) rfl) ?_;simp only [nf]
 refine pm ?_;simp only [nf]
 refine pq rfl rfl (qr_call cf26 (fun w' hw => label_calls _ _ _ _ w' (hT.grow (hH.chg.trans hw)) ((OwnC.sl hH 1 rfl hO13).chg hw) (by first | assumption | omega | (simp <;> omega)) (by first | decide | omega | (simp <;> omega)) (by first | decide | omega)) rfl) ?_;simp only [nf]
 refine pm ?_;simp only [nf]
 refine pq rfl rfl (qr_call cf26 (fun w' hw => label_calls _ _ _ _ w' (hT.grow (hH.chg.trans hw)) ((OwnC.sl hH 1 rfl hO13).chg hw) (by first | assumption | omega | (simp <;> omega)) (by first | decide | omega | (simp <;> omega)) (by first | decide | omega)) rfl) ?_;simp only [nf]
 refine pp rfl rfl (pr_build (by rfl) (bd33_0_1_2 _ _ _)) ?_;simp only [nf]
 refine plan_storeW 0 rfl rfl hH rfl rfl rfl (by simp [Value.oneCell']) sz33 (by simp) (by simp) ?_
 clear hH
 intro w16 hH
 (try simp only [nf, nh, Value.cells, arrB_set] at hH ⊢)
 refine pka 0 ?_;simp only [nf]
 refine plan_nil hH ?_
 clear hH
 intro w17 hH
 refine hK15 _ _ ?_
 (try clear hK15 K15)
 refine wp_ret ?_
 (try simp only [Exit.then, Exit.inBlock, ↓reduceIte, Nat.reduceEqDiff])
 refine BP.retct rfl rfl rfl (hH.blk 0 rfl) Tryd.underlying33 rfl sz33 (by simp) ?_
 exact ⟨rfl, hH.chg⟩
end Go.Proofs.YtdkjdioccpoacaaDoor
set_option linter.unusedSimpArgs false
set_option linter.unusedVariables false
namespace Go.Proofs.YtdkjdioccpoacaaDoor
open Go
section
variable {P : Program} {t : TypeId} {x y : Operand}
theorem bin_or_n {m n : Nat} (hm : m < 9223372036854775808) (hn : n < 9223372036854775808) : Bin P .or t x y (I64 m) (I64 n) (I64 (m ||| n : Nat)) := bin_of_int fun w => by
  simp only [binOp, Op.intBits, ofInt_nat]
  have h : (IntKind.i64.wrap (((BitVec.ofNat 64 m) ||| (BitVec.ofNat 64 n)).toNat : Int)) = ((m ||| n : Nat) : Int) := by
    have hb : m ||| n < 9223372036854775808 := Nat.or_lt_two_pow (n := 63) hm hn
    rw [BitVec.toNat_or, BitVec.toNat_ofNat, BitVec.toNat_ofNat, Nat.mod_eq_of_lt (by omega), Nat.mod_eq_of_lt (by omega)]
    exact wrap_i64_in _ (by omega) (by omega)
  show Result.ok (Value.int .i64 (IntKind.i64.wrap (((BitVec.ofNat 64 m) ||| (BitVec.ofNat 64 n)).toNat : Int))) w = _
  rw [h]
theorem bin_and_n {m n : Nat} (hm : m < 9223372036854775808) (hn : n < 9223372036854775808) : Bin P .and t x y (I64 m) (I64 n) (I64 (m &&& n : Nat)) := bin_of_int fun w => by
  simp only [binOp, Op.intBits, ofInt_nat]
  have h : (IntKind.i64.wrap (((BitVec.ofNat 64 m) &&& (BitVec.ofNat 64 n)).toNat : Int)) = ((m &&& n : Nat) : Int) := by
    have hb : m &&& n < 9223372036854775808 := Nat.and_lt_two_pow (n := 63) _ hn
    rw [BitVec.toNat_and, BitVec.toNat_ofNat, BitVec.toNat_ofNat, Nat.mod_eq_of_lt (by omega), Nat.mod_eq_of_lt (by omega)]
    exact wrap_i64_in _ (by omega) (by omega)
  show Result.ok (Value.int .i64 (IntKind.i64.wrap (((BitVec.ofNat 64 m) &&& (BitVec.ofNat 64 n)).toNat : Int))) w = _
  rw [h]
theorem bin_andNot_n {m n : Nat} (hm : m < 9223372036854775808) (hn : n < 9223372036854775808) : Bin P .andNot t x y (I64 m) (I64 n) (I64 (m &&& (18446744073709551615 - n) : Nat)) := bin_of_int fun w => by
  simp only [binOp, Op.intBits, ofInt_nat]
  have h : (IntKind.i64.wrap (((BitVec.ofNat 64 m) &&& ~~~(BitVec.ofNat 64 n)).toNat : Int)) = ((m &&& (18446744073709551615 - n) : Nat) : Int) := by
    have hb : m &&& (18446744073709551615 - n) ≤ m := Nat.and_le_left
    rw [BitVec.toNat_and, BitVec.toNat_not, BitVec.toNat_ofNat, BitVec.toNat_ofNat, Nat.mod_eq_of_lt (by omega), Nat.mod_eq_of_lt (by omega), show 2 ^ 64 - 1 - n = 18446744073709551615 - n from rfl]
    exact wrap_i64_in _ (by omega) (by omega)
  show Result.ok (Value.int .i64 (IntKind.i64.wrap (((BitVec.ofNat 64 m) &&& ~~~(BitVec.ofNat 64 n)).toNat : Int))) w = _
  rw [h]
end
end Go.Proofs.YtdkjdioccpoacaaDoor
