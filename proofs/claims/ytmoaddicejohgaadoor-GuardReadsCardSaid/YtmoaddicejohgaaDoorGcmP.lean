/- gcm's products are the field's: words, bytes and bits of a block as one number; sums of marks; the document's way of reckoning. No conditions. -/
import Derived.Test.YtmoaddicejohgaaDoorGcm1
import Derived.Test.YtmoaddicejohgaaDoorField
set_option linter.unusedSimpArgs false
set_option linter.unusedVariables false
set_option maxRecDepth 100000
set_option maxHeartbeats 4000000
namespace Go.Proofs.YtmoaddicejohgaaDoor
open Go
open List (getD_cons_zero getD_cons_succ set_cons_zero set_cons_succ)

/-- Two words as one number. -/
def pw (p : P2) : Nat := p.1.toNat <<< 64 ||| p.2.toNat
theorem pw_lt (p : P2) : pw p < 2 ^ 128 := by
  unfold pw
  refine Nat.or_lt_two_pow ?_ (Nat.lt_of_lt_of_le p.2.toNat_lt (by decide))
  rw [Nat.shiftLeft_eq]
  have := p.1.toNat_lt
  omega
theorem bit64 (x : UInt64) {k : Nat} (h : 64 ≤ k) : x.toNat.testBit k = false := Nat.testBit_lt_two_pow (Nat.lt_of_lt_of_le x.toNat_lt (Nat.pow_le_pow_right (by decide) h))
theorem bit8 (x : UInt8) {k : Nat} (h : 8 ≤ k) : x.toNat.testBit k = false := Nat.testBit_lt_two_pow (Nat.lt_of_lt_of_le x.toNat_lt (Nat.pow_le_pow_right (by decide) h))
theorem pw_bit (p : P2) (k : Nat) : (pw p).testBit k = if k < 64 then p.2.toNat.testBit k else p.1.toNat.testBit (k - 64) := by
  unfold pw
  rw [Nat.testBit_or, Nat.testBit_shiftLeft]
  by_cases h : k < 64
  · rw [if_pos h, decide_eq_false (by omega)]; simp
  · rw [if_neg h, bit64 p.2 (by omega), decide_eq_true (by omega)]; simp
theorem pw_inj {p q : P2} (h : pw p = pw q) : p = q := by
  have hb : ∀ k, (pw p).testBit k = (pw q).testBit k := fun k => by rw [h]
  have h2 : p.2 = q.2 := UInt64.toNat_inj.1 (Nat.eq_of_testBit_eq fun k => by
    by_cases hk : k < 64
    · have := hb k
      rw [pw_bit, pw_bit, if_pos hk, if_pos hk] at this; exact this
    · rw [bit64 _ (by omega), bit64 _ (by omega)])
  have h1 : p.1 = q.1 := UInt64.toNat_inj.1 (Nat.eq_of_testBit_eq fun k => by
    have := hb (k + 64)
    rw [pw_bit, pw_bit, if_neg (by omega), if_neg (by omega), Nat.add_sub_cancel] at this; exact this)
  exact Prod.ext h1 h2
theorem pw_xor (a b : P2) : pw (a.1 ^^^ b.1, a.2 ^^^ b.2) = pw a ^^^ pw b := by
  apply Nat.eq_of_testBit_eq
  intro k
  rw [Nat.testBit_xor, pw_bit, pw_bit, pw_bit]
  by_cases h : k < 64
  · rw [if_pos h, if_pos h, if_pos h, UInt64.toNat_xor, Nat.testBit_xor]
  · rw [if_neg h, if_neg h, if_neg h, UInt64.toNat_xor, Nat.testBit_xor]
theorem pw_zero : pw (0, 0) = 0 := rfl
/-- All marks, or none. -/
theorem neg_one (x : UInt64) : -(x &&& 1) = if x.toNat.testBit 0 then 18446744073709551615 else 0 := by
  have h : (x &&& 1).toNat = x.toNat % 2 := by
    rw [UInt64.toNat_and]
    exact Nat.and_one_is_mod _
  have h2 : x.toNat.testBit 0 = decide (x.toNat % 2 = 1) := by rw [Nat.testBit_zero]
  rw [h2]
  rcases Nat.mod_two_eq_zero_or_one x.toNat with h3 | h3
  · have : x &&& 1 = 0 := UInt64.toNat_inj.1 (by rw [h, h3]; rfl)
    rw [this, h3]; rfl
  · have : x &&& 1 = 1 := UInt64.toNat_inj.1 (by rw [h, h3]; rfl)
    rw [this, h3]; rfl
theorem and_all (x : UInt64) (b : Bool) : (x &&& if b then 18446744073709551615 else 0) = if b then x else 0 := by
  cases b
  · exact UInt64.and_zero
  · apply UInt64.toNat_inj.1
    apply Nat.eq_of_testBit_eq
    intro k
    simp only [if_true]
    rw [UInt64.toNat_and, Nat.testBit_and]
    by_cases h : k < 64
    · rw [show (18446744073709551615 : UInt64).toNat = 2 ^ 64 - 1 from rfl, Nat.testBit_two_pow_sub_one, decide_eq_true h, Bool.and_true]
    · rw [bit64 x (by omega), Bool.false_and]
theorem all_and (x : UInt64) (b : Bool) : ((if b then 18446744073709551615 else 0) &&& x) = if b then x else 0 := by rw [UInt64.and_comm, and_all]
theorem shr_bit (x : UInt64) (s : UInt64) (hs : s.toNat < 64) (k : Nat) : (x >>> s).toNat.testBit k = x.toNat.testBit (s.toNat + k) := by
  rw [UInt64.toNat_shiftRight, Nat.mod_eq_of_lt hs, Nat.testBit_shiftRight]
theorem shl_bit (x : UInt64) (s : UInt64) (hs : s.toNat < 64) (k : Nat) : (x <<< s).toNat.testBit k = (decide (k < 64) && (decide (s.toNat ≤ k) && x.toNat.testBit (k - s.toNat))) := by
  rw [UInt64.toNat_shiftLeft, Nat.mod_eq_of_lt hs, Nat.testBit_mod_two_pow, Nat.testBit_shiftLeft]
theorem wrap_bit (k : Nat) : WRAP.testBit k = (decide (64 ≤ k) && (16212958658533785600 : UInt64).toNat.testBit (k - 64)) := by
  have : WRAP = (16212958658533785600 : UInt64).toNat <<< 64 := rfl
  rw [this, Nat.testBit_shiftLeft]
theorem pw_gx (p : P2) : pw (p.1 >>> 1 ^^^ (-(p.2 &&& 1)) &&& 16212958658533785600, p.2 >>> 1 ||| p.1 <<< 63) = gx (pw p) := by
  rw [neg_one, all_and]
  have h0 : (pw p).testBit 0 = p.2.toNat.testBit 0 := by rw [pw_bit]; rfl
  unfold gx
  rw [h0]
  apply Nat.eq_of_testBit_eq
  intro k
  rw [Nat.testBit_xor, Nat.testBit_shiftRight, pw_bit, pw_bit]
  have hw : (sel (p.2.toNat.testBit 0) WRAP).testBit k = (p.2.toNat.testBit 0 && WRAP.testBit k) := by cases p.2.toNat.testBit 0 <;> simp [sel]
  rw [hw, wrap_bit]
  by_cases h : k < 64
  · rw [if_pos h, UInt64.toNat_or, Nat.testBit_or, shr_bit _ 1 (by decide), shl_bit _ 63 (by decide), decide_eq_true h, decide_eq_false (by omega : ¬ 64 ≤ k)]
    simp only [Bool.true_and, Bool.false_and, Bool.and_false, Bool.xor_false]
    show (p.2.toNat.testBit (1 + k) || (decide (63 ≤ k) && p.1.toNat.testBit (k - 63))) = _
    by_cases h2 : k = 63
    · subst h2
      rw [bit64 p.2 (show 64 ≤ 1 + 63 by omega), if_neg (show ¬ (1 + 63 < 64) by omega)]; rfl
    · rw [if_pos (show 1 + k < 64 by omega), decide_eq_false (show ¬ 63 ≤ k by omega)]; simp
  · rw [if_neg h, if_neg (show ¬ (1 + k < 64) by omega), UInt64.toNat_xor, Nat.testBit_xor, shr_bit _ 1 (by decide), decide_eq_true (by omega : 64 ≤ k)]
    show (p.1.toNat.testBit (1 + (k - 64)) ^^ _) = _
    rw [show 1 + (k - 64) = 1 + k - 64 by omega]
    cases p.2.toNat.testBit 0
    · simp
    · simp
theorem pw_bW (b : P2) : ∀ n, pw (bW b n) = gp n (pw b)
  | 0 => rfl
  | n + 1 => by rw [bW, pw_gx, pw_bW b n]; rfl
theorem msk_is (a : P2) (i : Nat) (hi : i < 128) : mskW a i = if cf (pw a) i then 18446744073709551615 else 0 := by
  have e : (63 - i % 64) < 64 := by omega
  unfold mskW
  rw [if_pos e, neg_one]
  have ho : (UInt64.ofNat (63 - i % 64)).toNat = 63 - i % 64 := ofNat_toNat64 _ (by omega)
  rw [shr_bit _ _ (by rw [ho]; exact e), ho]
  unfold cf
  rw [pw_bit]
  by_cases h : 64 ≤ i
  · rw [if_pos h, if_pos (show 127 - i < 64 by omega), show 63 - i % 64 + 0 = 127 - i by omega]
  · rw [if_neg h, if_neg (show ¬ 127 - i < 64 by omega), show 63 - i % 64 + 0 = 127 - i - 64 by omega]
theorem pw_zW (a b : P2) : ∀ n, n ≤ 128 → pw (zW a b n) = xs (fun i => sel (cf (pw a) i) (gp i (pw b))) n
  | 0, _ => by rw [zW, pw_zero]; rfl
  | n + 1, h => by
    rw [zW, xs, ← pw_zW a b n (by omega), msk_is a n (by omega), and_all, and_all, ← pw_bW]
    cases cf (pw a) n
    · simp [sel]
    · simp only [if_true, sel_t]
      exact pw_xor _ _
/-- The product of words is the field's. -/
theorem pw_mul (a b : P2) : pw (mulP a b) = gm (pw a) (pw b) := pw_zW a b 128 (Nat.le_refl _)
theorem word_bit (f : Nat → UInt8) : ∀ n, n ≤ 8 → ∀ k, (wordF f n).toNat.testBit k = (decide (k < 8 * n) && (f (n - 1 - k / 8)).toNat.testBit (k % 8))
  | 0, _, k => by simp [wordF]
  | n + 1, h, k => by
    rw [wordF, UInt64.toNat_or, Nat.testBit_or, shl_bit _ 8 (by decide), UInt8.toNat_toUInt64]
    show ((decide (k < 64) && (decide (8 ≤ k) && (wordF f n).toNat.testBit (k - 8))) || _) = _
    rw [word_bit f n (by omega)]
    by_cases h1 : k < 8
    · rw [decide_eq_false (by omega : ¬ 8 ≤ k), decide_eq_true (by omega : k < 8 * (n + 1)), show n + 1 - 1 - k / 8 = n by omega, Nat.mod_eq_of_lt h1]
      simp
    · rw [decide_eq_true (by omega : 8 ≤ k), bit8 (f n) (show 8 ≤ k by omega), show (k - 8) / 8 = k / 8 - 1 by omega, show (k - 8) % 8 = k % 8 by omega, show n - 1 - (k / 8 - 1) = n + 1 - 1 - k / 8 by omega]
      by_cases h2 : k < 8 * (n + 1)
      · rw [decide_eq_true h2, decide_eq_true (by omega : k < 64), decide_eq_true (by omega : k - 8 < 8 * n)]; simp
      · rw [decide_eq_false h2, decide_eq_false (by omega : ¬ k - 8 < 8 * n)]; simp
/-- A block's mark. -/
def bitF (f : Nat → UInt8) (i : Nat) : Bool := (if 7 - i % 8 < 8 then f (i / 8) >>> UInt8.ofNat (7 - i % 8) else 0) % 2 == 1
theorem bitF_is (f : Nat → UInt8) (i : Nat) : bitF f i = (f (i / 8)).toNat.testBit (7 - i % 8) := by
  unfold bitF
  rw [if_pos (by omega), Nat.testBit_eq_decide_div_mod_eq]
  have h : ((f (i / 8) >>> UInt8.ofNat (7 - i % 8)) % 2).toNat = (f (i / 8)).toNat / 2 ^ (7 - i % 8) % 2 := by
    rw [UInt8.toNat_mod, UInt8.toNat_shiftRight, ofNat_toNat8 _ (by omega), Nat.mod_eq_of_lt (by omega : 7 - i % 8 < 8), Nat.shiftRight_eq_div_pow]; rfl
  rw [Bool.eq_iff_iff, beq_iff_eq, decide_eq_true_eq, ← h]
  constructor
  · intro h1; rw [h1]; rfl
  · intro h1; exact UInt8.toNat_inj.1 h1
theorem cf_of (f : Nat → UInt8) (i : Nat) (h : i < 128) : cf (pw (ofP f)) i = bitF f i := by
  unfold cf
  rw [pw_bit, bitF_is]
  show (if 127 - i < 64 then (wordF (fun i => f (8 + i)) 8).toNat.testBit (127 - i) else (wordF f 8).toNat.testBit (127 - i - 64)) = _
  by_cases h1 : 64 ≤ i
  · rw [if_pos (by omega), word_bit _ 8 (by omega), decide_eq_true (by omega), Bool.true_and, show 8 + (8 - 1 - (127 - i) / 8) = i / 8 by omega, show (127 - i) % 8 = 7 - i % 8 by omega]
  · rw [if_neg (by omega), word_bit _ 8 (by omega), decide_eq_true (by omega), Bool.true_and, show 8 - 1 - (127 - i - 64) / 8 = i / 8 by omega, show (127 - i - 64) % 8 = 7 - i % 8 by omega]
/-- A number's byte. -/
def nbN (n j : Nat) : UInt8 := UInt8.ofNat (n >>> (8 * (15 - j)))
theorem nbN_bit (n j k : Nat) : (nbN n j).toNat.testBit k = (decide (k < 8) && n.testBit (8 * (15 - j) + k)) := by
  unfold nbN
  rw [UInt8.toNat_ofNat', Nat.testBit_mod_two_pow, Nat.testBit_shiftRight]
theorem nb_is (p : P2) (j : Nat) (h : j < 16) : nbP p j = nbN (pw p) j := by
  apply UInt8.toNat_inj.1
  apply Nat.eq_of_testBit_eq
  intro k
  rw [nbN_bit, pw_bit]
  have hb : ∀ (x : UInt64) (i : Nat), i < 8 → (byteW x i).toNat.testBit k = (decide (k < 8) && x.toNat.testBit (56 - 8 * i + k)) := fun x i hi => by
    unfold byteW
    rw [if_pos (by omega), UInt64.toNat_toUInt8, Nat.testBit_mod_two_pow (j := 8), shr_bit _ _ (by rw [ofNat_toNat64 _ (by omega)]; omega), ofNat_toNat64 _ (by omega)]
  unfold nbP
  by_cases h1 : j < 8
  · rw [if_pos h1, hb _ _ h1]
    by_cases hk : k < 8
    · rw [if_neg (by omega), show 8 * (15 - j) + k - 64 = 56 - 8 * j + k by omega]
    · rw [decide_eq_false hk]; simp
  · rw [if_neg h1, hb _ _ (by omega)]
    by_cases hk : k < 8
    · rw [if_pos (by omega), show 8 * (15 - j) + k = 56 - 8 * (j - 8) + k by omega]
    · rw [decide_eq_false hk]; simp
/-! The document's way: rows of marks -/
def vN (p : Nat → Bool) (n : Nat) : Nat := xs (fun j => sel (p j) (gp j e0)) n
theorem vN_congr {p q : Nat → Bool} {n : Nat} (h : ∀ j, j < n → p j = q j) : vN p n = vN q n := xs_congr fun j hj => by rw [h j hj]
theorem vN_flip {p : Nat → Bool} {j n : Nat} (h : j < n) : vN (upd p j (!p j)) n = vN p n ^^^ gp j e0 := by
  induction n with
  | zero => omega
  | succ n ih =>
    unfold vN at *
    rw [xs, xs]
    by_cases e : j = n
    · subst e
      rw [upd_same, xs_congr (g := fun i => sel (p i) (gp i e0)) fun i hi => by rw [upd_other _ _ _ (by omega)]]
      rw [Nat.xor_assoc]
      cases p j <;> simp [sel]
    · rw [ih (by omega), upd_other _ _ _ (fun h => e h.symm), Nat.xor_assoc, Nat.xor_comm (gp j e0), ← Nat.xor_assoc]
theorem vN_bits (f : Nat → UInt8) : vN (bitF f) 128 = pw (ofP f) := by
  have := xs_marks (pw_lt (ofP f))
  rw [← this]
  exact xs_congr fun i hi => by rw [cf_of f i hi]
theorem gp128 : gp 128 e0 = gp 0 e0 ^^^ gp 1 e0 ^^^ gp 2 e0 ^^^ gp 7 e0 := by kernel_rfl
theorem gp_back (i : Nat) (h : 128 ≤ i) : gp i e0 = gp (i - 128) e0 ^^^ gp (i - 127) e0 ^^^ gp (i - 126) e0 ^^^ gp (i - 121) e0 := by
  have e : gp i e0 = gp (i - 128) (gp 128 e0) := by rw [← gp_add]; congr 1; omega
  rw [e, gp128, gp_xor, gp_xor, gp_xor, ← gp_add, ← gp_add, ← gp_add, ← gp_add]
  rw [show i - 128 + 0 = i - 128 by omega, show i - 128 + 1 = i - 127 by omega, show i - 128 + 2 = i - 126 by omega, show i - 128 + 7 = i - 121 by omega]
/-- One coefficient is put back. -/
theorem vN_back {p : Nat → Bool} {i : Nat} (h : 128 ≤ i) (hp : p i = true) :
    vN (upd (upd (upd (upd p (i - 128) (!p (i - 128))) (i - 127) (!(upd p (i - 128) (!p (i - 128))) (i - 127))) (i - 126) (!(upd (upd p (i - 128) (!p (i - 128))) (i - 127) (!(upd p (i - 128) (!p (i - 128))) (i - 127))) (i - 126)))
      (i - 121) (!(upd (upd (upd p (i - 128) (!p (i - 128))) (i - 127) (!(upd p (i - 128) (!p (i - 128))) (i - 127))) (i - 126) (!(upd (upd p (i - 128) (!p (i - 128))) (i - 127) (!(upd p (i - 128) (!p (i - 128))) (i - 127))) (i - 126))) (i - 121))) i = vN p (i + 1) := by
  rw [vN_flip (by omega), vN_flip (by omega), vN_flip (by omega), vN_flip (by omega)]
  show _ = vN p i ^^^ sel (p i) (gp i e0)
  rw [hp, sel_t, gp_back i h]
  simp only [Nat.xor_assoc]
theorem vN_drop {p : Nat → Bool} {i : Nat} (hp : p i = false) : vN p i = vN p (i + 1) := by
  show _ = vN p i ^^^ sel (p i) (gp i e0)
  rw [hp, sel_f, Nat.xor_zero]
/-- The product, by rows. -/
def rowsN (x y : Nat → Bool) (i : Nat) : Nat := xs (fun i => sel (x i) (gp i (vN y 128))) i
def partN (x y : Nat → Bool) (i k : Nat) : Nat := rowsN x y i ^^^ sel (x i) (gp i (vN y k))
theorem vN_map (i : Nat) (y : Nat → Bool) (k : Nat) : gp i (vN y k) = xs (fun j => sel (y j) (gp (i + j) e0)) k := by
  unfold vN
  rw [xs_map (gp_zero i) (gp_xor i)]
  exact xs_congr fun j _ => by rw [map_sel (gp_zero i), ← gp_add]
theorem part_zero (x y : Nat → Bool) (i : Nat) : partN x y i 0 = rowsN x y i := by
  unfold partN
  rw [show vN y 0 = 0 from rfl, gp_zero, sel_zero, Nat.xor_zero]
theorem part_off (x y : Nat → Bool) (i k : Nat) (h : x i = false) : partN x y i k = rowsN x y (i + 1) := by
  unfold partN
  show _ = rowsN x y i ^^^ sel (x i) _
  rw [h, sel_f, sel_f]
theorem part_end (x y : Nat → Bool) (i : Nat) : partN x y i 128 = rowsN x y (i + 1) := rfl
theorem part_step (x y : Nat → Bool) (i k : Nat) (hx : x i = true) (hy : y k = true) : partN x y i k ^^^ gp (i + k) e0 = partN x y i (k + 1) := by
  unfold partN
  rw [hx, sel_t, sel_t, vN_map, vN_map, xs, hy, sel_t, Nat.xor_assoc]
theorem part_same (x y : Nat → Bool) (i k : Nat) (hy : y k = false) : partN x y i k = partN x y i (k + 1) := by
  unfold partN
  rw [vN_map, vN_map, xs, hy, sel_f, Nat.xor_zero]
theorem rows_all (f g : Nat → UInt8) : rowsN (bitF f) (bitF g) 128 = pw (mulP (ofP f) (ofP g)) := by
  rw [pw_mul]
  unfold rowsN gm
  rw [vN_bits]
  exact xs_congr fun i hi => by rw [cf_of f i hi]
theorem add_mark : ((List.range 256).all fun n => (List.range 8).all fun r => n.testBit (7 - r) || (UInt8.ofNat n + (128 : UInt8) >>> UInt8.ofNat r == UInt8.ofNat n ^^^ UInt8.ofNat (2 ^ (7 - r)))) = true := by kernel_rfl
theorem add_mark_is (a : UInt8) (r : Nat) (hr : r < 8) (h : a.toNat.testBit (7 - r) = false) : a + (128 : UInt8) >>> UInt8.ofNat r = a ^^^ UInt8.ofNat (2 ^ (7 - r)) := by
  have h1 := List.all_eq_true.1 (List.all_eq_true.1 add_mark a.toNat (List.mem_range.2 a.toNat_lt)) r (List.mem_range.2 hr)
  rw [h, Bool.false_or, beq_iff_eq, UInt8.ofNat_toNat] at h1
  exact h1
theorem nbN_step (p : Nat → Bool) (i : Nat) (hi : i < 128) (hp : p i = true) (j : Nat) (hj : j < 16) :
    nbN (vN p (i + 1)) j = if i / 8 = j then nbN (vN p i) j + (if i % 8 < 8 then (128 : UInt8) >>> UInt8.ofNat (i % 8) else 0) else nbN (vN p i) j := by
  have e : vN p (i + 1) = vN p i ^^^ 2 ^ (127 - i) := by
    show vN p i ^^^ sel (p i) (gp i e0) = _
    rw [hp, sel_t, gp_e0 i hi]
  have hz : ∀ k, k ≤ 127 - i → (vN p i).testBit k = false := fun k hk => xs_testBit _ _ _ fun m hm => by
    cases p m
    · simp [sel]
    · rw [sel_t, gp_e0 m (by omega)]; exact Nat.testBit_two_pow_of_ne (by omega)
  have hx : ∀ (a : UInt8) (r : Nat), r < 8 → ∀ k, (a ^^^ UInt8.ofNat (2 ^ (7 - r))).toNat.testBit k = (a.toNat.testBit k ^^ decide (7 - r = k)) := fun a r hr k => by
    rw [UInt8.toNat_xor, Nat.testBit_xor, UInt8.toNat_ofNat', Nat.mod_eq_of_lt (Nat.pow_lt_pow_right (by decide) (by omega : 7 - r < 8)), Nat.testBit_two_pow]
  apply UInt8.toNat_inj.1
  apply Nat.eq_of_testBit_eq
  intro k
  rw [nbN_bit, e, Nat.testBit_xor, Nat.testBit_two_pow]
  by_cases h : i / 8 = j
  · rw [if_pos h, if_pos (by omega), add_mark_is _ _ (by omega) (by rw [nbN_bit, hz _ (by omega)]; simp), hx _ _ (by omega), nbN_bit]
    by_cases hk : k < 8
    · rw [decide_eq_true hk, Bool.true_and, Bool.true_and]
      congr 1
      rw [decide_eq_decide]; omega
    · rw [decide_eq_false hk, decide_eq_false (by omega : ¬ 7 - i % 8 = k)]; rfl
  · rw [if_neg h, nbN_bit]
    by_cases hk : k < 8
    · rw [decide_eq_true hk, decide_eq_false (by omega : ¬ 127 - i = 8 * (15 - j) + k), Bool.xor_false]
    · rw [decide_eq_false hk]; rfl
def outL (p : Nat → Bool) (i : Nat) : List UInt8 := (List.range 16).map (nbN (vN p i))
theorem outL_step (p : Nat → Bool) (i : Nat) (hi : i < 128) (hp : p i = true) : (outL p i).set (i / 8) ((outL p i).getD (i / 8) 0 + (if i % 8 < 8 then (128 : UInt8) >>> UInt8.ofNat (i % 8) else 0)) = outL p (i + 1) := by
  unfold outL
  apply List.ext_getElem (by simp)
  intro j h1 h2
  have hj : j < 16 := by simpa using h2
  have e := nbN_step p i hi hp j hj
  rw [List.getElem_set]
  simp only [List.getElem_map, List.getElem_range]
  rw [e]
  by_cases h : i / 8 = j
  · subst h
    rw [if_pos rfl, if_pos rfl]
    congr 1
    simp [List.getD, show i / 8 < 16 by omega]
  · rw [if_neg h, if_neg h]
theorem outL_same (p : Nat → Bool) (i : Nat) (hp : p i = false) : outL p i = outL p (i + 1) := by
  unfold outL; rw [vN_drop hp]
theorem outL_end (p : Nat → Bool) (q : P2) (h : vN p 128 = pw q) : outL p 128 = (List.range 16).map (nbP q) := by
  unfold outL
  rw [h]
  exact List.map_congr_left fun j hj => (nb_is q j (List.mem_range.1 hj)).symm
theorem outL_zero (p : Nat → Bool) : (List.range 16).map (fun _ => (0 : UInt8)) = outL p 0 := by
  unfold outL
  refine List.map_congr_left fun j _ => ?_
  show _ = nbN 0 j
  unfold nbN; rw [Nat.zero_shiftRight]; rfl

end Go.Proofs.YtmoaddicejohgaaDoor
