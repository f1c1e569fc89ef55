/- Walks of packet.Whole, bytes.Clone, guard's hide and mask; of the document's Whole and masked. No further conditions. -/
import Derived.Test.YtmoaddicejohgaaDoorGuard3
import Derived.Test.YtmoaddicejohgaaDoorGuard
set_option linter.unusedSimpArgs false
set_option linter.unusedVariables false
set_option maxRecDepth 100000
set_option maxHeartbeats 4000000
namespace Go.Proofs.YtmoaddicejohgaaDoor
open Go
open List (getD_cons_zero getD_cons_succ set_cons_zero set_cons_succ)

/-- The number that is nearest. -/
def wholeN (low size e : Nat) : Nat :=
  if e / 2 ^ (8 * size) * 2 ^ (8 * size) + low + 2 ^ (8 * size) / 2 ≤ e ∧ e / 2 ^ (8 * size) * 2 ^ (8 * size) + low + 2 ^ (8 * size) ≤ 4611686018427387903 then e / 2 ^ (8 * size) * 2 ^ (8 * size) + low + 2 ^ (8 * size)
  else if e + 2 ^ (8 * size) / 2 < e / 2 ^ (8 * size) * 2 ^ (8 * size) + low ∧ 2 ^ (8 * size) ≤ e / 2 ^ (8 * size) * 2 ^ (8 * size) + low then e / 2 ^ (8 * size) * 2 ^ (8 * size) + low - 2 ^ (8 * size)
  else e / 2 ^ (8 * size) * 2 ^ (8 * size) + low
theorem whole_bits (e low k : Nat) (hl : low < 2 ^ k) (he : e < 9223372036854775808) (hk : k ≤ 32) : (e &&& (18446744073709551615 - (2 ^ k - 1))) ||| low = e / 2 ^ k * 2 ^ k + low := by
  have h1 : e / 2 ^ k * 2 ^ k + low = (e / 2 ^ k * 2 ^ k) ||| low := by
    rw [Nat.mul_comm, Nat.two_pow_add_eq_or_of_lt hl]
  rw [h1]
  congr 1
  apply Nat.eq_of_testBit_eq
  intro i
  have hp : 2 ^ k ≤ 2 ^ 32 := Nat.pow_le_pow_right (by decide) hk
  have h64 : (2 : Nat) ^ 64 = 18446744073709551616 := rfl
  have e1 : 18446744073709551615 - (2 ^ k - 1) = 2 ^ 64 - (2 ^ k - 1 + 1) := by omega
  have hp0 : 0 < 2 ^ k := Nat.two_pow_pos k
  have h6432 : (2 : Nat) ^ 32 ≤ 2 ^ 64 := Nat.pow_le_pow_right (by decide) (by decide)
  rw [Nat.testBit_and, e1, Nat.testBit_two_pow_sub_succ (by omega), Nat.testBit_two_pow_sub_one, Nat.mul_comm, Nat.testBit_two_pow_mul, Nat.testBit_div_two_pow]
  by_cases hik : i < k
  · rw [decide_eq_true hik]
    have : decide (i ≥ k) = false := decide_eq_false (by omega)
    rw [this]; simp
  · have : decide (i ≥ k) = true := decide_eq_true (by omega)
    rw [decide_eq_false hik, this]
    by_cases hi : i < 64
    · rw [decide_eq_true hi, show i - k + k = i by omega]; simp
    · have h2 : e.testBit i = false := Nat.testBit_lt_two_pow (Nat.lt_of_lt_of_le he (by
        have : (2 : Nat) ^ 64 ≤ 2 ^ i := Nat.pow_le_pow_right (by decide) (by omega)
        omega))
      rw [show i - k + k = i by omega, h2]; simp
theorem pow_size (s : Nat) (h1 : 1 ≤ s) (h4 : s ≤ 4) : 256 ≤ 2 ^ (8 * s) ∧ 2 ^ (8 * s) ≤ 4294967296 ∧ 2 ^ (8 * s) % 2 = 0 := by
  obtain rfl | rfl | rfl | rfl : s = 1 ∨ s = 2 ∨ s = 3 ∨ s = 4 := by omega
  all_goals decide

theorem pkwhole_calls (low size e : Nat) (w : World) (h1 : 1 ≤ size) (h4 : size ≤ 4) (hl : low < 2 ^ (8 * size)) (he : e ≤ 4611686018427387903) : Ret Tryd.prog 35 #[I64 low, I64 size, I64 e] w fun v w' => v = .tuple #[I64 (wholeN low size e : Nat), I64 (0 : Nat)] ∧ Chg [] w w' := by
 obtain ⟨hw1, hw2, hw3⟩ := pow_size size h1 h4
 have hwb := whole_bits e low (8 * size) hl (by omega) (by omega)
 have hdm : e / 2 ^ (8 * size) * 2 ^ (8 * size) ≤ e := Nat.div_mul_le_self _ _
 have hand : e &&& (18446744073709551615 - (2 ^ (8 * size) - 1)) ≤ e := Nat.and_le_left
 refine Ret.enter Tryd.func35 rfl ?_
 simp only [Tryd.ntmps35, fe, Nat.reduceAdd, Nat.reduceSub]
 have hH := Hp.start [] w
 refine wp_seq_k ?_
 intro K1 hK1
 refine wrt [.p 0, .p 1] ?_
 refine pka 0 (pka 0 ?_);simp only [nf]
 refine plan_nil hH ?_
 clear hH
 intro w2 hH
 refine hK1 _ _ ?_
 (try clear hK1 K1)
 refine wp_seq_k ?_
 intro K3 hK3
 refine wp_seq_k ?_
 intro K4 hK4
 refine wrt [.p 0, .q 1, .p 2, .p 3, .p 4, .p 5, .p 6, .p 7, .p 8, .q 9, .p 10, .p 11, .p 12, .p 13, .q 14, .p 15, .p 16] ?_
 refine pm ?_;simp only [nf]
 refine pq rfl rfl (qr_call cf49 (fun w' hw => within_calls _ 1 4 w' (by omega)) rfl) ?_;simp only [nf]
 refine pp rfl rfl (pr_not rfl) ?_;simp only [nf]
 refine plan_p (v := BV false) rfl rfl (pr_move_v rfl) ?_
 (try simp only [nf])
 refine pp rfl rfl pr_move ?_;simp only [nf]
 refine pp rfl rfl pr_move ?_;simp only [nf]
 refine pp rfl rfl (pr_bin rfl rfl (by first | exact bin_mul_n (m := 8) (by omega) | exact bin_mul_i (by omega) (by omega))) ?_;simp only [nf]
 refine pp rfl rfl (pr_bin rfl rfl (bin_shl_n (m := 1) (by omega) (by omega))) ?_;simp only [nf]
 refine pp rfl rfl (pr_bin rfl rfl (by first | exact bin_sub_n (n := 1) (by omega) (by omega) | exact bin_sub_i (by omega) (by omega))) ?_;simp only [nf]
 refine pq rfl rfl (qr_call cf49 (fun w' hw => within_calls _ 0 _ w' (by omega)) rfl) ?_;simp only [nf]
 refine pp rfl rfl (pr_not rfl) ?_;simp only [nf]
 refine pp rfl rfl (pr_pick_f rfl) ?_;simp only [nf]
 refine plan_p (v := BV false) rfl rfl (pr_move_v rfl) ?_
 (try simp only [nf])
 refine pp rfl rfl pr_move ?_;simp only [nf]
 refine pq rfl rfl (qr_call cf49 (fun w' hw => within_calls _ 0 4611686018427387903 w' (by omega)) rfl) ?_;simp only [nf]
 refine pp rfl rfl (pr_not rfl) ?_;simp only [nf]
 refine pp rfl rfl (pr_pick_f rfl) ?_;simp only [nf]
 refine plan_nil hH ?_
 clear hH
 intro w5 hH
 refine hK4 _ _ ?_
 (try clear hK4 K4)
 refine wp_cond_false rfl ?_
 refine wp_skip ?_
 refine hK3 _ _ ?_
 (try clear hK3 K3)
 refine wp_seq_k ?_
 intro K6 hK6
 refine wrt [.p 0, .p 1, .p 2, .p 3] ?_
 refine pm ?_;simp only [nf]
 refine pp rfl rfl (pr_bin rfl rfl (by first | exact bin_mul_n (m := 8) (by omega) | exact bin_mul_i (by omega) (by omega))) ?_;simp only [nf]
 refine pp rfl rfl (pr_bin rfl rfl (bin_shl_n (m := 1) (by omega) (by omega))) ?_;simp only [nf]
 refine pa ?_;simp only [nf]
 refine plan_nil hH ?_
 clear hH
 intro w7 hH
 simp only [Nat.one_mul]
 refine hK6 _ _ ?_
 (try clear hK6 K6)
 refine wp_seq_k ?_
 intro K8 hK8
 refine wrt [.p 0, .p 1, .p 2, .p 3, .p 4, .p 5, .p 6] ?_
 refine pm (pm ?_);simp only [nf]
 refine pp rfl rfl (pr_bin rfl rfl (by first | exact bin_sub_n (n := 1) (by omega) (by omega) | exact bin_sub_i (by omega) (by omega))) ?_;simp only [nf]
 refine pp rfl rfl (pr_bin rfl rfl (by first | exact bin_andNot_n (by omega) (by omega))) ?_;simp only [nf]
 refine pm ?_;simp only [nf]
 refine pp rfl rfl (pr_bin rfl rfl (by first | exact bin_or_n (by omega) (by omega))) ?_;simp only [nf]
 refine pa ?_;simp only [nf]
 refine plan_nil hH ?_
 clear hH
 intro w9 hH
 rw [hwb]
 refine hK8 _ _ ?_
 (try clear hK8 K8)
 refine wp_seq_k ?_
 intro K10 hK10
 refine wp_block ?_
 refine wp_seq_k ?_
 intro K11 hK11
 refine wrt [.p 0, .p 1, .p 2, .p 3, .p 4, .p 5, .p 6, .p 7, .p 8, .p 9, .p 10, .p 11, .p 12] ?_
 refine pm (pm (pm ?_));simp only [nf]
 refine pp rfl rfl (pr_bin rfl rfl (by first | exact bin_quo_n (n := 2) (by omega) (by omega))) ?_;simp only [nf]
 refine pp rfl rfl (pr_bin rfl rfl (by first | exact bin_sub_n (by omega) (by omega) | exact bin_sub_i (by omega) (by omega))) ?_;simp only [nf]
 refine pp rfl rfl (pr_bin rfl rfl (by first | exact bin_leq_n  | exact bin_leq_i)) ?_;simp only [nf]
 refine pm ?_;simp only [nf]
 refine plan_pc_t rfl rfl rfl (fun hb => by have hb' := hb; try simp only [gsl] at hb'; rw [hb]; exact pr_move) ?_
 (try simp only [nf])
 refine plan_pc_t rfl rfl rfl (fun hb => by have hb' := hb; try simp only [gsl] at hb'; rw [hb]; exact pr_move) ?_
 (try simp only [nf])
 refine plan_pc_t rfl rfl rfl (fun hb => by have hb' := hb; try simp only [gsl] at hb'; rw [hb]; exact (pr_bin rfl rfl (by first | exact bin_sub_n (m := 4611686018427387903) (by omega) (by omega) | exact bin_sub_i (by omega) (by omega)))) ?_
 (try simp only [nf])
 refine plan_pc_t rfl rfl rfl (fun hb => by have hb' := hb; try simp only [gsl] at hb'; rw [hb]; exact (pr_bin rfl rfl (by first | exact bin_leq_n  | exact bin_leq_i))) ?_
 (try simp only [nf])
 refine pp rfl rfl (pr_pick_and rfl rfl rfl) ?_;simp only [nf]
 refine pa ?_;simp only [nf]
 refine plan_nil hH ?_
 clear hH
 intro w12 hH
 refine hK11 _ _ ?_
 (try clear hK11 K11)
 refine wp_cond_split rfl (fun hc13 => ?_) (fun hc13 => ?_)
 ·
  (try simp only [cnd, Bool.and_eq_true, Bool.and_eq_false_iff, Bool.or_eq_true, Bool.or_eq_false_iff] at hc13)
  refine wp_seq_k ?_
  intro K14 hK14
  refine wrt [.p 0, .p 1, .p 2, .p 3, .p 4] ?_
  refine pm (pm ?_);simp only [nf]
  refine pp rfl rfl (pr_bin rfl rfl (by first | exact bin_add_n (by omega) | exact bin_add_i (by omega) (by omega))) ?_;simp only [nf]
  refine pa (pka 0 ?_);simp only [nf]
  refine plan_nil hH ?_
  clear hH
  intro w15 hH
  refine hK14 _ _ ?_
  (try clear hK14 K14)
  refine wp_ret ?_
  (try simp only [Exit.then, Exit.inBlock, ↓reduceIte, Nat.reduceEqDiff])
  refine BP.ret2 rfl rfl rfl ?_
  first | (exact ⟨congrArg (fun n : Nat => Value.tuple #[I64 (n : Nat), I64 (0 : Nat)]) (by unfold wholeN; rw [if_pos (by omega)]), hH.chg⟩) | (exact ⟨congrArg (fun n : Nat => Value.tuple #[I64 (n : Nat), I64 (0 : Nat)]) (by unfold wholeN; rw [if_neg (by omega), if_pos (by omega)]), hH.chg⟩) | (exact ⟨congrArg (fun n : Nat => Value.tuple #[I64 (n : Nat), I64 (0 : Nat)]) (by unfold wholeN; rw [if_neg (by omega), if_neg (by omega)]), hH.chg⟩)
 ·
  (try simp only [cnd, Bool.and_eq_true, Bool.and_eq_false_iff, Bool.or_eq_true, Bool.or_eq_false_iff] at hc13)
  refine wp_seq_k ?_
  intro K16 hK16
  refine wrt [.p 0, .p 1, .p 2, .p 3, .p 4, .p 5, .p 6, .p 7, .p 8, .p 9, .p 10, .p 11] ?_
  refine pm (pm (pm ?_));simp only [nf]
  refine pp rfl rfl (pr_bin rfl rfl (by first | exact bin_quo_n (n := 2) (by omega) (by omega))) ?_;simp only [nf]
  refine pp rfl rfl (pr_bin rfl rfl (by first | exact bin_add_n (by omega) | exact bin_add_i (by omega) (by omega))) ?_;simp only [nf]
  refine pp rfl rfl (pr_bin rfl rfl (by first | exact bin_gtr_n  | exact bin_gtr_i)) ?_;simp only [nf]
  refine pm ?_;simp only [nf]
  refine plan_pc_t rfl rfl rfl (fun hb => by have hb' := hb; try simp only [gsl] at hb'; rw [hb]; exact pr_move) ?_
  (try simp only [nf])
  refine plan_pc_t rfl rfl rfl (fun hb => by have hb' := hb; try simp only [gsl] at hb'; rw [hb]; exact pr_move) ?_
  (try simp only [nf])
  refine plan_pc_t rfl rfl rfl (fun hb => by have hb' := hb; try simp only [gsl] at hb'; rw [hb]; exact (pr_bin rfl rfl (by first | exact bin_geq_n  | exact bin_geq_i))) ?_
  (try simp only [nf])
  refine pp rfl rfl (pr_pick_and rfl rfl rfl) ?_;simp only [nf]
  refine pa ?_;simp only [nf]
  refine plan_nil hH ?_
  clear hH
  intro w17 hH
  refine hK16 _ _ ?_
  (try clear hK16 K16)
  refine wp_cond_split rfl (fun hc18 => ?_) (fun hc18 => ?_)
  ·
   (try simp only [cnd, Bool.and_eq_true, Bool.and_eq_false_iff, Bool.or_eq_true, Bool.or_eq_false_iff] at hc18)
   refine wp_seq_k ?_
   intro K19 hK19
   refine wrt [.p 0, .p 1, .p 2, .p 3, .p 4] ?_
   refine pm (pm ?_);simp only [nf]
   refine pp rfl rfl (pr_bin rfl rfl (by first | exact bin_sub_n (by omega) (by omega) | exact bin_sub_i (by omega) (by omega))) ?_;simp only [nf]
   refine pa (pka 0 ?_);simp only [nf]
   refine plan_nil hH ?_
   clear hH
   intro w20 hH
   refine hK19 _ _ ?_
   (try clear hK19 K19)
   refine wp_ret ?_
   (try simp only [Exit.then, Exit.inBlock, ↓reduceIte, Nat.reduceEqDiff])
   refine BP.ret2 rfl rfl rfl ?_
   first | (exact ⟨congrArg (fun n : Nat => Value.tuple #[I64 (n : Nat), I64 (0 : Nat)]) (by unfold wholeN; rw [if_pos (by omega)]), hH.chg⟩) | (exact ⟨congrArg (fun n : Nat => Value.tuple #[I64 (n : Nat), I64 (0 : Nat)]) (by unfold wholeN; rw [if_neg (by omega), if_pos (by omega)]), hH.chg⟩) | (exact ⟨congrArg (fun n : Nat => Value.tuple #[I64 (n : Nat), I64 (0 : Nat)]) (by unfold wholeN; rw [if_neg (by omega), if_neg (by omega)]), hH.chg⟩)
  ·
   (try simp only [cnd, Bool.and_eq_true, Bool.and_eq_false_iff, Bool.or_eq_true, Bool.or_eq_false_iff] at hc18)
   refine wp_skip ?_
   refine hK10 _ _ ?_
   (try clear hK10 K10)
   refine wp_seq_k ?_
   intro K21 hK21
   refine wrt [.p 0, .p 1, .p 2] ?_
   refine pm (pa (pka 0 ?_));simp only [nf]
   refine plan_nil hH ?_
   clear hH
   intro w22 hH
   refine hK21 _ _ ?_
   (try clear hK21 K21)
   refine wp_ret ?_
   (try simp only [Exit.then, Exit.inBlock, ↓reduceIte, Nat.reduceEqDiff])
   refine BP.ret2 rfl rfl rfl ?_
   first | (exact ⟨congrArg (fun n : Nat => Value.tuple #[I64 (n : Nat), I64 (0 : Nat)]) (by unfold wholeN; rw [if_pos (by omega)]), hH.chg⟩) | (exact ⟨congrArg (fun n : Nat => Value.tuple #[I64 (n : Nat), I64 (0 : Nat)]) (by unfold wholeN; rw [if_neg (by omega), if_pos (by omega)]), hH.chg⟩) | (exact ⟨congrArg (fun n : Nat => Value.tuple #[I64 (n : Nat), I64 (0 : Nat)]) (by unfold wholeN; rw [if_neg (by omega), if_neg (by omega)]), hH.chg⟩)

theorem docwhole_calls (low size e : Nat) (w : World) (h1 : 1 ≤ size) (h4 : size ≤ 4) (hl : low < 2 ^ (8 * size)) (he : e ≤ 4611686018427387903) : Ret Tryd.prog 33 #[I64 low, I64 size, I64 e] w fun v w' => v = .tuple #[I64 (wholeN low size e : Nat), I64 (0 : Nat)] ∧ Chg [] w w' := by
 obtain ⟨hw1, hw2, hw3⟩ := pow_size size h1 h4
 have hwb := whole_bits e low (8 * size) hl (by omega) (by omega)
 have hdm : e / 2 ^ (8 * size) * 2 ^ (8 * size) ≤ e := Nat.div_mul_le_self _ _
 have hand : e &&& (18446744073709551615 - (2 ^ (8 * size) - 1)) ≤ e := Nat.and_le_left
 refine Ret.enter Tryd.func33 rfl ?_
 simp only [Tryd.ntmps33, fe, Nat.reduceAdd, Nat.reduceSub]
 have hH := Hp.start [] w
 refine wp_seq_k ?_
 intro K1 hK1
 refine wrt [.p 0, .p 1] ?_
 refine pka 0 (pka 0 ?_);simp only [nf]
 refine plan_nil hH ?_
 clear hH
 intro w2 hH
 refine hK1 _ _ ?_
 (try clear hK1 K1)
 refine wp_seq_k ?_
 intro K3 hK3
 refine wp_seq_k ?_
 intro K4 hK4
 refine wrt [.p 0, .p 1, .p 2, .p 3, .p 4, .p 5, .p 6, .p 7, .p 8, .p 9, .p 10, .p 11, .p 12, .p 13, .p 14, .p 15, .p 16, .p 17, .p 18, .p 19, .p 20, .p 21, .p 22, .p 23, .p 24] ?_
 refine pm ?_;simp only [nf]
 refine pp rfl rfl (pr_bin rfl rfl (by first | exact bin_lss_n (n := 1)  | exact bin_lss_i)) ?_;simp only [nf]
 refine pm ?_;simp only [nf]
 refine plan_pc_f rfl rfl rfl (fun hb => by have hb' := hb; try simp only [gsl] at hb'; rw [hb]; exact pr_move) ?_
 (try simp only [nf])
 refine plan_pc_f rfl rfl rfl (fun hb => by have hb' := hb; try simp only [gsl] at hb'; rw [hb]; exact (pr_bin rfl rfl (by first | exact bin_gtr_n (n := 4)  | exact bin_gtr_i))) ?_
 (try simp only [nf])
 refine pp rfl rfl (pr_pick_or rfl rfl rfl) ?_;simp only [nf]
 refine pm ?_;simp only [nf]
 refine plan_pc_f rfl rfl rfl (fun hb => by have hb' := hb; try simp only [gsl] at hb'; rw [hb]; exact pr_move) ?_
 (try simp only [nf])
 refine plan_pc_f rfl rfl rfl (fun hb => by have hb' := hb; try simp only [gsl] at hb'; rw [hb]; exact (pr_bin rfl rfl (by first | exact bin_lss_n (n := 0)  | exact bin_lss_i))) ?_
 (try simp only [nf])
 refine pp rfl rfl (pr_pick_or rfl rfl rfl) ?_;simp only [nf]
 refine pm ?_;simp only [nf]
 refine plan_pc_f rfl rfl rfl (fun hb => by have hb' := hb; try simp only [gsl] at hb'; rw [hb]; exact pr_move) ?_
 (try simp only [nf])
 refine plan_pc_f rfl rfl rfl (fun hb => by have hb' := hb; try simp only [gsl] at hb'; rw [hb]; exact pr_move) ?_
 (try simp only [nf])
 refine plan_pc_f rfl rfl rfl (fun hb => by have hb' := hb; try simp only [gsl] at hb'; rw [hb]; exact (pr_bin rfl rfl (by first | exact bin_mul_n (m := 8) (by omega) | exact bin_mul_i (by omega) (by omega)))) ?_
 (try simp only [nf])
 refine plan_pc_f rfl rfl rfl (fun hb => by have hb' := hb; try simp only [gsl] at hb'; rw [hb]; exact (pr_bin rfl rfl (bin_shl_n (m := 1) (by omega) (by omega)))) ?_
 (try simp only [nf])
 refine plan_pc_f rfl rfl rfl (fun hb => by have hb' := hb; try simp only [gsl] at hb'; rw [hb]; exact (pr_bin rfl rfl (by first | exact bin_geq_n  | exact bin_geq_i))) ?_
 (try simp only [nf])
 refine pp rfl rfl (pr_pick_or rfl rfl rfl) ?_;simp only [nf]
 refine pm ?_;simp only [nf]
 refine plan_pc_f rfl rfl rfl (fun hb => by have hb' := hb; try simp only [gsl] at hb'; rw [hb]; exact pr_move) ?_
 (try simp only [nf])
 refine plan_pc_f rfl rfl rfl (fun hb => by have hb' := hb; try simp only [gsl] at hb'; rw [hb]; exact (pr_bin rfl rfl (by first | exact bin_lss_n (n := 0)  | exact bin_lss_i))) ?_
 (try simp only [nf])
 refine pp rfl rfl (pr_pick_or rfl rfl rfl) ?_;simp only [nf]
 refine pm ?_;simp only [nf]
 refine plan_pc_f rfl rfl rfl (fun hb => by have hb' := hb; try simp only [gsl] at hb'; rw [hb]; exact pr_move) ?_
 (try simp only [nf])
 refine plan_pc_f rfl rfl rfl (fun hb => by have hb' := hb; try simp only [gsl] at hb'; rw [hb]; exact (pr_bin rfl rfl (by first | exact bin_gtr_n (n := 4611686018427387903)  | exact bin_gtr_i))) ?_
 (try simp only [nf])
 refine pp rfl rfl (pr_pick_or rfl rfl rfl) ?_;simp only [nf]
 refine plan_nil hH ?_
 clear hH
 intro w5 hH
 refine hK4 _ _ ?_
 (try clear hK4 K4)
 refine wp_cond_split rfl (fun hc6 => ?_) (fun hc6 => ?_)
 ·
  (try simp only [cnd, Bool.and_eq_true, Bool.and_eq_false_iff, Bool.or_eq_true, Bool.or_eq_false_iff] at hc6)
  exfalso; omega
 ·
  (try simp only [cnd, Bool.and_eq_true, Bool.and_eq_false_iff, Bool.or_eq_true, Bool.or_eq_false_iff] at hc6)
  refine wp_skip ?_
  refine hK3 _ _ ?_
  (try clear hK3 K3)
  refine wp_seq_k ?_
  intro K7 hK7
  refine wrt [.p 0, .p 1, .p 2, .p 3] ?_
  refine pm ?_;simp only [nf]
  refine pp rfl rfl (pr_bin rfl rfl (by first | exact bin_mul_n (m := 8) (by omega) | exact bin_mul_i (by omega) (by omega))) ?_;simp only [nf]
  refine pp rfl rfl (pr_bin rfl rfl (bin_shl_n (m := 1) (by omega) (by omega))) ?_;simp only [nf]
  refine pa ?_;simp only [nf]
  refine plan_nil hH ?_
  clear hH
  intro w8 hH
  simp only [Nat.one_mul]
  refine hK7 _ _ ?_
  (try clear hK7 K7)
  refine wp_seq_k ?_
  intro K9 hK9
  refine wrt [.p 0, .p 1, .p 2, .p 3, .p 4, .p 5, .p 6, .p 7] ?_
  refine pm (pm ?_);simp only [nf]
  refine pp rfl rfl (pr_bin rfl rfl (by first | exact bin_quo_n (by omega) (by omega))) ?_;simp only [nf]
  refine pm ?_;simp only [nf]
  refine pp rfl rfl (pr_bin rfl rfl (by first | exact bin_mul_n (by omega) | exact bin_mul_i (by omega) (by omega))) ?_;simp only [nf]
  refine pm ?_;simp only [nf]
  refine pp rfl rfl (pr_bin rfl rfl (by first | exact bin_add_n (by omega) | exact bin_add_i (by omega) (by omega))) ?_;simp only [nf]
  refine pa ?_;simp only [nf]
  refine plan_nil hH ?_
  clear hH
  intro w10 hH
  refine hK9 _ _ ?_
  (try clear hK9 K9)
  refine wp_seq_k ?_
  intro K11 hK11
  refine wp_seq_k ?_
  intro K12 hK12
  refine wrt [.p 0, .p 1, .p 2, .p 3, .p 4, .p 5, .p 6, .p 7, .p 8, .p 9, .p 10, .p 11] ?_
  refine pm (pm (pm ?_));simp only [nf]
  refine pp rfl rfl (pr_bin rfl rfl (by first | exact bin_quo_n (n := 2) (by omega) (by omega))) ?_;simp only [nf]
  refine pp rfl rfl (pr_bin rfl rfl (by first | exact bin_sub_n (by omega) (by omega) | exact bin_sub_i (by omega) (by omega))) ?_;simp only [nf]
  refine pp rfl rfl (pr_bin rfl rfl (by first | exact bin_leq_n  | exact bin_leq_i)) ?_;simp only [nf]
  refine pm ?_;simp only [nf]
  refine plan_pc_t rfl rfl rfl (fun hb => by have hb' := hb; try simp only [gsl] at hb'; rw [hb]; exact pr_move) ?_
  (try simp only [nf])
  refine plan_pc_t rfl rfl rfl (fun hb => by have hb' := hb; try simp only [gsl] at hb'; rw [hb]; exact pr_move) ?_
  (try simp only [nf])
  refine plan_pc_t rfl rfl rfl (fun hb => by have hb' := hb; try simp only [gsl] at hb'; rw [hb]; exact (pr_bin rfl rfl (by first | exact bin_add_n (by omega) | exact bin_add_i (by omega) (by omega)))) ?_
  (try simp only [nf])
  refine plan_pc_t rfl rfl rfl (fun hb => by have hb' := hb; try simp only [gsl] at hb'; rw [hb]; exact (pr_bin rfl rfl (by first | exact bin_leq_n (n := 4611686018427387903)  | exact bin_leq_i))) ?_
  (try simp only [nf])
  refine pp rfl rfl (pr_pick_and rfl rfl rfl) ?_;simp only [nf]
  refine plan_nil hH ?_
  clear hH
  intro w13 hH
  refine hK12 _ _ ?_
  (try clear hK12 K12)
  refine wp_cond_split rfl (fun hc14 => ?_) (fun hc14 => ?_)
  ·
   (try simp only [cnd, Bool.and_eq_true, Bool.and_eq_false_iff, Bool.or_eq_true, Bool.or_eq_false_iff] at hc14)
   refine wp_seq_k ?_
   intro K15 hK15
   refine wrt [.p 0, .p 1, .p 2, .p 3, .p 4] ?_
   refine pm (pm ?_);simp only [nf]
   refine pp rfl rfl (pr_bin rfl rfl (by first | exact bin_add_n (by omega) | exact bin_add_i (by omega) (by omega))) ?_;simp only [nf]
   refine pa (pka 0 ?_);simp only [nf]
   refine plan_nil hH ?_
   clear hH
   intro w16 hH
   refine hK15 _ _ ?_
   (try clear hK15 K15)
   refine wp_ret ?_
   (try simp only [Exit.then, Exit.inBlock, ↓reduceIte, Nat.reduceEqDiff])
   refine BP.ret2 rfl rfl rfl ?_
   first | (exact ⟨congrArg (fun n : Nat => Value.tuple #[I64 (n : Nat), I64 (0 : Nat)]) (by unfold wholeN; rw [if_pos (by omega)]), hH.chg⟩) | (exact ⟨congrArg (fun n : Nat => Value.tuple #[I64 (n : Nat), I64 (0 : Nat)]) (by unfold wholeN; rw [if_neg (by omega), if_pos (by omega)]), hH.chg⟩) | (exact ⟨congrArg (fun n : Nat => Value.tuple #[I64 (n : Nat), I64 (0 : Nat)]) (by unfold wholeN; rw [if_neg (by omega), if_neg (by omega)]), hH.chg⟩)
  ·
   (try simp only [cnd, Bool.and_eq_true, Bool.and_eq_false_iff, Bool.or_eq_true, Bool.or_eq_false_iff] at hc14)
   refine wp_skip ?_
   refine hK11 _ _ ?_
   (try clear hK11 K11)
   refine wp_seq_k ?_
   intro K17 hK17
   refine wp_seq_k ?_
   intro K18 hK18
   refine wrt [.p 0, .p 1, .p 2, .p 3, .p 4, .p 5, .p 6, .p 7, .p 8, .p 9, .p 10] ?_
   refine pm (pm (pm ?_));simp only [nf]
   refine pp rfl rfl (pr_bin rfl rfl (by first | exact bin_quo_n (n := 2) (by omega) (by omega))) ?_;simp only [nf]
   refine pp rfl rfl (pr_bin rfl rfl (by first | exact bin_add_n (by omega) | exact bin_add_i (by omega) (by omega))) ?_;simp only [nf]
   refine pp rfl rfl (pr_bin rfl rfl (by first | exact bin_gtr_n  | exact bin_gtr_i)) ?_;simp only [nf]
   refine pm ?_;simp only [nf]
   refine plan_pc_t rfl rfl rfl (fun hb => by have hb' := hb; try simp only [gsl] at hb'; rw [hb]; exact pr_move) ?_
   (try simp only [nf])
   refine plan_pc_t rfl rfl rfl (fun hb => by have hb' := hb; try simp only [gsl] at hb'; rw [hb]; exact pr_move) ?_
   (try simp only [nf])
   refine plan_pc_t rfl rfl rfl (fun hb => by have hb' := hb; try simp only [gsl] at hb'; rw [hb]; exact (pr_bin rfl rfl (by first | exact bin_geq_n  | exact bin_geq_i))) ?_
   (try simp only [nf])
   refine pp rfl rfl (pr_pick_and rfl rfl rfl) ?_;simp only [nf]
   refine plan_nil hH ?_
   clear hH
   intro w19 hH
   refine hK18 _ _ ?_
   (try clear hK18 K18)
   refine wp_cond_split rfl (fun hc20 => ?_) (fun hc20 => ?_)
   ·
    (try simp only [cnd, Bool.and_eq_true, Bool.and_eq_false_iff, Bool.or_eq_true, Bool.or_eq_false_iff] at hc20)
    refine wp_seq_k ?_
    intro K21 hK21
    refine wrt [.p 0, .p 1, .p 2, .p 3, .p 4] ?_
    refine pm (pm ?_);simp only [nf]
    refine pp rfl rfl (pr_bin rfl rfl (by first | exact bin_sub_n (by omega) (by omega) | exact bin_sub_i (by omega) (by omega))) ?_;simp only [nf]
    refine pa (pka 0 ?_);simp only [nf]
    refine plan_nil hH ?_
    clear hH
    intro w22 hH
    refine hK21 _ _ ?_
    (try clear hK21 K21)
    refine wp_ret ?_
    (try simp only [Exit.then, Exit.inBlock, ↓reduceIte, Nat.reduceEqDiff])
    refine BP.ret2 rfl rfl rfl ?_
    first | (exact ⟨congrArg (fun n : Nat => Value.tuple #[I64 (n : Nat), I64 (0 : Nat)]) (by unfold wholeN; rw [if_pos (by omega)]), hH.chg⟩) | (exact ⟨congrArg (fun n : Nat => Value.tuple #[I64 (n : Nat), I64 (0 : Nat)]) (by unfold wholeN; rw [if_neg (by omega), if_pos (by omega)]), hH.chg⟩) | (exact ⟨congrArg (fun n : Nat => Value.tuple #[I64 (n : Nat), I64 (0 : Nat)]) (by unfold wholeN; rw [if_neg (by omega), if_neg (by omega)]), hH.chg⟩)
   ·
    (try simp only [cnd, Bool.and_eq_true, Bool.and_eq_false_iff, Bool.or_eq_true, Bool.or_eq_false_iff] at hc20)
    refine wp_skip ?_
    refine hK17 _ _ ?_
    (try clear hK17 K17)
    refine wp_seq_k ?_
    intro K23 hK23
    refine wrt [.p 0, .p 1, .p 2] ?_
    refine pm (pa (pka 0 ?_));simp only [nf]
    refine plan_nil hH ?_
    clear hH
    intro w24 hH
    refine hK23 _ _ ?_
    (try clear hK23 K23)
    refine wp_ret ?_
    (try simp only [Exit.then, Exit.inBlock, ↓reduceIte, Nat.reduceEqDiff])
    refine BP.ret2 rfl rfl rfl ?_
    first | (exact ⟨congrArg (fun n : Nat => Value.tuple #[I64 (n : Nat), I64 (0 : Nat)]) (by unfold wholeN; rw [if_pos (by omega)]), hH.chg⟩) | (exact ⟨congrArg (fun n : Nat => Value.tuple #[I64 (n : Nat), I64 (0 : Nat)]) (by unfold wholeN; rw [if_neg (by omega), if_pos (by omega)]), hH.chg⟩) | (exact ⟨congrArg (fun n : Nat => Value.tuple #[I64 (n : Nat), I64 (0 : Nat)]) (by unfold wholeN; rw [if_neg (by omega), if_neg (by omega)]), hH.chg⟩)

theorem clone_calls (v : Value) (l : List UInt8) (w : World) (hv : Sl w v l) (hne : l ≠ []) (hl : l.length ≤ 140737488355328) : Ret Tryd.prog 30 #[v] w fun v' w' => ∃ o cap cs, v' = own o l.length cap ∧ Chg [] w w' ∧ OwnC o l.length cap 1 cs ((l).map V8) ∧ ∀ b, o = some b → w.heap.size ≤ b ∧ Blk w' b 5 cs := by
 refine Ret.enter Tryd.func30 rfl ?_
 simp only [Tryd.ntmps30, fe, Nat.reduceAdd, Nat.reduceSub]
 have hH := Hp.start [] w
 refine wp_seq_k ?_
 intro K1 hK1
 refine wrt [.p 0] ?_
 refine pa ?_;simp only [nf]
 refine plan_nil hH ?_
 clear hH
 intro w2 hH
 refine hK1 _ _ ?_
 (try clear hK1 K1)
 refine wp_seq_k ?_
 intro K3 hK3
 refine wp_seq_k ?_
 intro K4 hK4
 refine wrt [.p 0, .p 1] ?_
 refine pm ?_;simp only [nf]
 refine pp rfl rfl (pr_bin rfl rfl (bin_eql_Sl (hv.chg hH.chg) hne Tryd.underlying22)) ?_;simp only [nf]
 refine plan_nil hH ?_
 clear hH
 intro w5 hH
 refine hK4 _ _ ?_
 (try clear hK4 K4)
 refine wp_cond_false rfl ?_
 refine wp_skip ?_
 refine hK3 _ _ ?_
 (try clear hK3 K3)
 refine wp_seq_k ?_
 intro K6 hK6
 refine wrt [.x 0, .p 1, .e 2, .p 3] ?_
 refine plan_buildSlice rfl rfl hH Tryd.underlying22 (by rfl) (bs0 ) ?_
 clear hH
 intro b7 w8 hH
 (try simp only [nf, nh, Value.cells, arrB_set] at hH ⊢)
 refine pm ?_;simp only [nf]
 refine plan_append 0 rfl rfl hH rfl (OwnC.of_bytes rfl) (fun w' hH => ((hv.chg hH.chg)).src) rfl rfl Tryd.underlying22 Tryd.underlying22 (.inl ⟨_, rfl⟩) sz5 bz5 ze5 rfl (by first | omega | (simp <;> omega)) (by first | omega | (simp <;> omega)) ?_
 clear hH
 intro o9 cap10 cs11 w12 hO13 hH
 (try simp only [nf] at hH ⊢)
 (try simp only [nf, nh, Value.cells, arrB_set] at hH ⊢)
 try rw [← List.map_append] at hO13
 (try simp only [Nat.zero_add, List.nil_append, List.length_nil] at hO13 ⊢)
 refine pa ?_;simp only [nf]
 refine plan_nil hH ?_
 clear hH
 intro w14 hH
 refine hK6 _ _ ?_
 (try clear hK6 K6)
 refine wp_ret ?_
 (try simp only [Exit.then, Exit.inBlock, ↓reduceIte, Nat.reduceEqDiff])
 refine BP.ret1 rfl rfl ?_
 exact ⟨_, _, _, rfl, hH.chg, (by assumption), hH.owned 0 rfl⟩

/-- A mask put on the first byte and on n bytes from a place on. -/
def hideL (l ml : List UInt8) (p : Nat) : Nat → List UInt8
  | 0 => l.set 0 (l.getD 0 0 ^^^ ml.getD 0 0)
  | i + 1 => (hideL l ml p i).set (p + i) ((hideL l ml p i).getD (p + i) 0 ^^^ ml.getD (1 + i) 0)
@[simp] theorem hideL_len (l ml : List UInt8) (p n : Nat) : (hideL l ml p n).length = l.length := by
  induction n with
  | zero => simp [hideL]
  | succ n ih => simp [hideL, ih]
/-- A packet's mask. -/
def sampL (l : List UInt8) (p : Nat) : List UInt8 := (l.drop (p + 4)).take 16
def maskR (K : List UInt8) (l : List UInt8) (p : Nat) : Nat → UInt8 := aesR (kexp fun i => K.getD i 0) (fun i => (sampL l p).getD i 0) 10
def maskF (K l : List UInt8) (p : Nat) : Nat → UInt8 := upd (maskR K l p) 0 (if l.getD 0 0 &&& 128 != 0 then maskR K l p 0 &&& 15 else maskR K l p 0 &&& 31)
def maskL (K l : List UInt8) (p : Nat) : List UInt8 := (List.range 16).map (maskF K l p)
@[simp] theorem maskL_len (K l : List UInt8) (p : Nat) : (maskL K l p).length = 16 := by simp [maskL]
theorem sampL_len (l : List UInt8) (p : Nat) (h : p + 20 ≤ l.length) : (sampL l p).length = 16 := by unfold sampL; rw [List.length_take, List.length_drop]; omega

theorem hide_calls (b cap m : Nat) (cs : Array Value) (l ml : List UInt8) (mv : Value) (p n : Nat) (w : World) (hlm : l.length = m) (hb : Blk w b 5 cs) (hO : OwnC (some b) m cap 1 cs (l.map V8)) (hm : ∀ w', Chg [b] w w' → Sl w' mv ml) (h1 : 1 ≤ l.length) (h2 : p + n ≤ l.length) (h3 : n + 1 ≤ ml.length) (h4 : l.length < 9223372036854775808) : Ret Tryd.prog 31 #[own (some b) m cap, mv, I64 p, I64 n] w fun v w' => v = .tuple #[] ∧ Chg [b] w w' ∧ ∃ cs', Blk w' b 5 cs' ∧ OwnC (some b) m cap 1 cs' ((hideL l ml p n).map V8) := by
 subst hlm
 refine Ret.enter Tryd.func31 rfl ?_
 simp only [Tryd.ntmps31, fe, Nat.reduceAdd, Nat.reduceSub]
 have hH := Hp.start1 hb
 refine wp_seq_k ?_
 intro K1 hK1
 refine wrp [.p 0, .p 1, .p 3, .p 4, .q 2, .q 5, .p 6, .p 7, .e 8] ?_
 refine pm ?_;simp only [nf]
 refine pp rfl rfl (pr_idx_Sl (i := 0) (OwnC.sl hH 0 rfl hO) rfl rfl Tryd.underlying22 sz5 (by first | omega | ((try simp only [hideL_len]); omega))) ?_;simp only [nf]
 refine pm ?_;simp only [nf]
 refine pp rfl rfl (pr_idx_Sl (i := 0) (hm _ hH.chg) rfl rfl Tryd.underlying22 sz5 (by first | omega | ((try simp only [hideL_len]); omega))) ?_;simp only [nf]
 refine pq rfl rfl (qr_load1 rfl Tryd.underlying5 rfl (Sl.cell (i := 0) (OwnC.sl hH 0 rfl hO) (by first | omega | ((try simp only [hideL_len]); omega)))) ?_;simp only [nf]
 refine pq rfl rfl (qr_load1 rfl Tryd.underlying5 rfl (Sl.cell (i := 0) (hm _ hH.chg) (by first | omega | ((try simp only [hideL_len]); omega)))) ?_;simp only [nf]
 refine pp rfl rfl (pr_bin rfl rfl (bin_xor_u8 _ _)) ?_;simp only [nf]
 refine pp rfl rfl (pr_idx_Sl (i := 0) (OwnC.sl hH 0 rfl hO) rfl rfl Tryd.underlying22 sz5 (by first | omega | ((try simp only [hideL_len]); omega))) ?_;simp only [nf]
 refine plan_storeO 0 (j := 0) rfl rfl hH rfl rfl hO rfl sz5 (by first | omega | ((try simp only [hideL_len]); omega)) ?_
 clear hH
 intro cs3 w2 hO4 hH
 (try simp only [nf, nh, Value.cells, arrB_set] at hH ⊢)
 refine plan_nil hH ?_
 clear hH
 intro w5 hH
 refine hK1 _ _ ?_
 (try clear hK1 K1)
 refine wp_seq_k ?_
 intro K6 hK6
 refine wrt [.p 0, .p 1] ?_
 refine pm (pk 0 ?_);simp only [nf]
 refine plan_nil hH ?_
 clear hH
 intro w7 hH
 refine hK6 _ _ ?_
 (try clear hK6 K6)
 refine wp_block ?_
 refine wp_loopT [18] [8, 19, 20, 21, 22, 23, 24, 25, 26, 27, 28, 29, 30, 31, 32, 33, 34] (fun (n8 : Nat) (vs : List Value) (w' : World) => ∃ (i : Nat) (cs' : Array Value), vs = [I64 (i : Nat)] ∧ Hp [b] w w' [(some b, 5, cs')] ∧ n8 = n - i ∧ i ≤ n ∧ OwnC (some b) l.length cap 1 cs' ((hideL l ml p i).map V8)) (n - 0) (by kernel_rfl) ?_ ?_
 ·
  simp only [ga]
  refine ⟨0, cs3, rfl, ?_, rfl, ?_, ?_⟩
  ·
   exact hH
  · first | omega | (omega)
  · first | omega | (exact hO4)
 clear hH
 intro n8 vs9 w10 hR11 d0
 obtain ⟨i, cs', rfl, hH, hn12, hf13, hO'⟩ := hR11
 simp only [putAll, putD, List.set_cons_zero, List.set_cons_succ, Nat.zero_add, Nat.reduceAdd]
 have hhl := hideL_len l ml p i
 refine wp_seq_k ?_
 intro K14 hK14
 refine wrt [.p 0] ?_
 refine pp rfl rfl (pr_bin rfl rfl (by first | exact bin_lss_n  | exact bin_lss_i)) ?_;simp only [nf]
 refine plan_nil hH ?_
 clear hH
 intro w15 hH
 refine hK14 _ _ ?_
 (try clear hK14 K14)
 refine wp_seq_k ?_
 intro K16 hK16
 refine wp_cond_split rfl (fun hc17 => ?_) (fun hc17 => ?_)
 ·
  (try simp only [cnd] at hc17)
  refine wp_skip ?_
  refine hK16 _ _ ?_
  (try clear hK16 K16)
  refine wp_seq_k ?_
  intro K18 hK18
  refine wp_block ?_
  refine wp_seq_k ?_
  intro K19 hK19
  refine wrt [.p 0, .p 1] ?_
  refine pm (pa ?_);simp only [nf]
  refine plan_nil hH ?_
  clear hH
  intro w20 hH
  refine hK19 _ _ ?_
  (try clear hK19 K19)
  refine wrp [.p 0, .p 1, .p 2, .p 3, .p 4, .p 6, .p 7, .p 8, .p 9, .q 5, .q 10, .p 11, .p 12, .e 13] ?_
  refine pm (pm (pm ?_));simp only [nf]
  refine pp rfl rfl (pr_bin rfl rfl (by first | exact bin_add_n (by first | omega | ((try simp only [hideL_len]); omega)) | exact bin_add_i (by first | omega | ((try simp only [hideL_len]); omega)) (by first | omega | ((try simp only [hideL_len]); omega)))) ?_;simp only [nf]
  refine pp rfl rfl (pr_idx_Sl (OwnC.sl hH 0 rfl hO') rfl rfl Tryd.underlying22 sz5 (by first | omega | ((try simp only [hideL_len]); omega))) ?_;simp only [nf]
  refine pm (pm ?_);simp only [nf]
  refine pp rfl rfl (pr_bin rfl rfl (by first | exact bin_add_n (m := 1) (by first | omega | ((try simp only [hideL_len]); omega)) | exact bin_add_i (by first | omega | ((try simp only [hideL_len]); omega)) (by first | omega | ((try simp only [hideL_len]); omega)))) ?_;simp only [nf]
  refine pp rfl rfl (pr_idx_Sl (hm _ hH.chg) rfl rfl Tryd.underlying22 sz5 (by first | omega | ((try simp only [hideL_len]); omega))) ?_;simp only [nf]
  refine pq rfl rfl (qr_load1 rfl Tryd.underlying5 rfl (Sl.cell (OwnC.sl hH 0 rfl hO') (by first | omega | ((try simp only [hideL_len]); omega)))) ?_;simp only [nf]
  refine pq rfl rfl (qr_load1 rfl Tryd.underlying5 rfl (Sl.cell (hm _ hH.chg) (by first | omega | ((try simp only [hideL_len]); omega)))) ?_;simp only [nf]
  refine pp rfl rfl (pr_bin rfl rfl (bin_xor_u8 _ _)) ?_;simp only [nf]
  refine pp rfl rfl (pr_idx_Sl (OwnC.sl hH 0 rfl hO') rfl rfl Tryd.underlying22 sz5 (by first | omega | ((try simp only [hideL_len]); omega))) ?_;simp only [nf]
  refine plan_storeO 0 rfl rfl hH rfl rfl hO' rfl sz5 (by first | omega | ((try simp only [hideL_len]); omega)) ?_
  clear hH
  intro cs22 w21 hO23 hH
  (try simp only [nf, nh, Value.cells, arrB_set] at hH ⊢)
  refine plan_nil hH ?_
  clear hH
  intro w24 hH
  refine hK18 _ _ ?_
  (try clear hK18 K18)
  refine wrt [.p 0, .p 1] ?_
  refine pp rfl rfl (pr_bin rfl rfl (by first | exact bin_add_n (n := 1) (by first | omega | ((try simp only [hideL_len]); omega)) | exact bin_add_i (by first | omega | ((try simp only [hideL_len]); omega)) (by first | omega | ((try simp only [hideL_len]); omega)))) ?_;simp only [nf]
  refine pm ?_;simp only [nf]
  refine plan_nil hH ?_
  clear hH
  intro w25 hH
  (try simp only [Exit.then, Exit.inBlock, ↓reduceIte, Nat.reduceEqDiff])
  refine ⟨n - (i + 1), ?_, _, rfl, by kernel_rfl, ?_⟩
  · first | omega | (omega)
  simp only [ga]
  refine ⟨i + 1, cs22, rfl, ?_, rfl, ?_, ?_⟩
  ·
   exact hH
  · first | omega | (omega)
  · first | omega | (unfold hideL; exact hO23)
 ·
  (try simp only [cnd] at hc17)
  refine wp_exit ?_
  (try simp only [Exit.then, Exit.inBlock, ↓reduceIte, Nat.reduceEqDiff])
  refine BP.normal ?_
  refine BP.ret0 rfl rfl ?_
  obtain rfl : i = n := by omega
  exact ⟨rfl, hH.chg, _, hH.blk 0 rfl, hO'⟩

theorem mask_calls (a b c : ByteArray) (v : Value) (l : List UInt8) (p : Nat) (w : World) (hv : Sl w v l) (hc : c.size = 16) (hp : p + 20 ≤ l.length) (hl : l.length < 9223372036854775808) : Ret Tryd.prog 32 #[.agg #[.string a, .string b, .string c], v, I64 p] w fun v' w' => ∃ bm, v' = .slice (some ⟨bm, 0, none⟩) 16 16 ∧ Chg [] w w' ∧ w.heap.size ≤ bm ∧ Blk w' bm 87 (arr8 16 (maskF c.data.toList l p)) := by
 refine Ret.enter Tryd.func32 rfl ?_
 simp only [Tryd.ntmps32, fe, Nat.reduceAdd, Nat.reduceSub]
 have hH := Hp.start [] w
 refine wp_seq_k ?_
 intro K1 hK1
 refine wrt [.x 0, .p 1] ?_
 refine plan_box rfl rfl hH rfl ?_
 clear hH
 intro b2 w3 hH
 (try simp only [nf, nh, Value.cells, arrB_set] at hH ⊢)
 refine pa ?_;simp only [nf]
 refine plan_nil hH ?_
 clear hH
 intro w4 hH
 refine hK1 _ _ ?_
 (try clear hK1 K1)
 refine wp_seq_k ?_
 intro K5 hK5
 refine wrt [.p 0, .q 1, .x 2, .x 3, .p 4, .p 5, .p 6, .p 7, .p 8] ?_
 refine pp rfl rfl (pr_fieldAddr 2 rfl Tryd.underlying37 rfl rfl sz9) ?_;simp only [nf]
 refine pq rfl rfl (qr_load1 rfl Tryd.underlying9 rfl ((hH.blk 0 rfl).cell rfl)) ?_;simp only [nf]
 refine plan_s2b rfl rfl hH rfl Tryd.underlying9 Tryd.underlying22 Tryd.underlying5 ?_
 clear hH
 intro b6 cap7 cs8 w9 hO10 hH
 (try simp only [nf] at hH ⊢)
 (try simp only [nf, nh, Value.cells, arrB_set] at hH ⊢)
 refine plan_callx rfl rfl hH cf42 (fun w' hH => new_calls _ _ w' (OwnC.sl hH 1 rfl hO10) (by simpa using hc)) rfl (fun _ _ _ h => h.choose_spec.2.1) ?_
 clear hH
 intro w11 v12 w13 hH hp14
 obtain ⟨b15, rfl, hg, hfr, hbk⟩ := hp14
 replace hH := hH.callnew hg hbk hfr
 clear hg hfr hbk
 (try simp only [nf, nh, Value.cells, arrB_set] at hH ⊢)
 (try simp only [nf])
 refine pm ?_;simp only [nf]
 refine pp rfl rfl (pr_extract rfl rfl) ?_;simp only [nf]
 refine pp rfl rfl (pr_extract rfl rfl) ?_;simp only [nf]
 refine pa (pa ?_);simp only [nf]
 refine plan_nil hH ?_
 clear hH
 intro w16 hH
 refine hK5 _ _ ?_
 (try clear hK5 K5)
 refine wp_seq_k ?_
 intro K17 hK17
 refine wrt [.p 0, .p 1, .p 2, .p 3, .p 4, .p 5, .p 6, .p 7, .x 8, .p 9, .p 10, .p 11, .p 12, .p 13] ?_
 refine pm (pm (pm ?_));simp only [nf]
 refine pp rfl rfl (pr_bin rfl rfl (by first | exact bin_add_n (n := 4) (by omega) | exact bin_add_i (by omega) (by omega))) ?_;simp only [nf]
 refine pm ?_;simp only [nf]
 refine pp rfl rfl (pr_bin rfl rfl (by first | exact bin_add_n (n := 4) (by omega) | exact bin_add_i (by omega) (by omega))) ?_;simp only [nf]
 refine pp rfl rfl (pr_bin rfl rfl (by first | exact bin_add_n (n := 16) (by omega) | exact bin_add_i (by omega) (by omega))) ?_;simp only [nf]
 refine pp rfl rfl (pr_slice_Sl_lh (hv.chg hH.chg) rfl rfl rfl Tryd.underlying22 sz5 (by omega) (by omega)) ?_;simp only [nf]
 refine plan_callx rfl rfl hH cf43 (fun w' hH => block_calls _ _ _ _ w' (hH.blk 2 rfl) (Sl.cut (hv.chg hH.chg) (by omega) (by omega)) (by simpa [sampL] using sampL_len l p hp)) rfl (fun _ _ _ h => h.choose_spec.2.1) ?_
 clear hH
 intro w18 v19 w20 hH hp21
 obtain ⟨b22, rfl, hg, hfr, hbk⟩ := hp21
 replace hH := hH.callnew hg hbk hfr
 clear hg hfr hbk
 (try simp only [nf, nh, Value.cells, arrB_set] at hH ⊢)
 (try simp only [nf])
 refine pm ?_;simp only [nf]
 refine pp rfl rfl (pr_extract rfl rfl) ?_;simp only [nf]
 refine pp rfl rfl (pr_extract rfl rfl) ?_;simp only [nf]
 refine pa (pa ?_);simp only [nf]
 refine plan_nil hH ?_
 clear hH
 intro w23 hH
 simp only [Nat.add_sub_cancel_left] at hH
 refine hK17 _ _ ?_
 (try clear hK17 K17)
 refine wp_seq_k ?_
 intro K24 hK24
 refine wp_seq_k ?_
 intro K25 hK25
 refine wrt [.p 0, .p 1, .q 2, .p 3, .p 4] ?_
 refine pm ?_;simp only [nf]
 refine pp rfl rfl (pr_idx_Sl (i := 0) (hv.chg hH.chg) rfl rfl Tryd.underlying22 sz5 (by omega)) ?_;simp only [nf]
 refine pq rfl rfl (qr_load1 rfl Tryd.underlying5 rfl (Sl.cell (i := 0) (hv.chg hH.chg) (by omega))) ?_;simp only [nf]
 refine pp rfl rfl (pr_bin rfl rfl (bin_and_u8 _ 128)) ?_;simp only [nf]
 refine pp rfl rfl (pr_bin rfl rfl (bin_neq_u8 _ 0)) ?_;simp only [nf]
 refine plan_nil hH ?_
 clear hH
 intro w26 hH
 refine hK25 _ _ ?_
 (try clear hK25 K25)
 refine wp_cond_split rfl (fun hc27 => ?_) (fun hc27 => ?_)
 ·
  (try simp only [cnd] at hc27)
  have hq := hc27
  refine wrt [.p 0, .p 1, .q 2, .p 3, .p 4, .e 5] ?_
  refine pm ?_;simp only [nf]
  refine pp rfl rfl (pr_idxS1 (i := 0) rfl rfl Tryd.underlying22 sz5 (by omega)) ?_;simp only [nf]
  refine pq rfl rfl (qr_load1 rfl Tryd.underlying5 rfl ((hH.blk 3 rfl).cell (arr8_get (by omega)))) ?_;simp only [nf]
  refine pp rfl rfl (pr_bin rfl rfl (bin_and_u8 _ 15)) ?_;simp only [nf]
  refine pp rfl rfl (pr_idxS1 (i := 0) rfl rfl Tryd.underlying22 sz5 (by omega)) ?_;simp only [nf]
  refine plan_store1 3 rfl rfl hH rfl rfl rfl rfl sz5 (by simp <;> omega) ?_
  clear hH
  intro w28 hH
  (try simp only [nf, nh, Value.cells, arrB_set] at hH ⊢)
  refine plan_nil hH ?_
  clear hH
  intro w29 hH
  refine hK24 _ _ ?_
  (try clear hK24 K24)
  refine wp_seq_k ?_
  intro K30 hK30
  refine wrt [.p 0, .p 1] ?_
  refine pm (pa ?_);simp only [nf]
  refine plan_nil hH ?_
  clear hH
  intro w31 hH
  refine hK30 _ _ ?_
  (try clear hK30 K30)
  refine wp_ret ?_
  (try simp only [Exit.then, Exit.inBlock, ↓reduceIte, Nat.reduceEqDiff])
  refine BP.ret1 rfl rfl ?_
  exact ⟨_, rfl, hH.chg, (hH.mine 3 rfl).resolve_right (by simp), (hH.say 3 rfl (arr8_congr fun i _ => by unfold maskF; rw [if_pos (bne_iff_ne.2 hq)]; rfl)).blk 3 rfl⟩
 ·
  (try simp only [cnd] at hc27)
  have hq := hc27
  refine wrt [.p 0, .p 1, .q 2, .p 3, .p 4, .e 5] ?_
  refine pm ?_;simp only [nf]
  refine pp rfl rfl (pr_idxS1 (i := 0) rfl rfl Tryd.underlying22 sz5 (by omega)) ?_;simp only [nf]
  refine pq rfl rfl (qr_load1 rfl Tryd.underlying5 rfl ((hH.blk 3 rfl).cell (arr8_get (by omega)))) ?_;simp only [nf]
  refine pp rfl rfl (pr_bin rfl rfl (bin_and_u8 _ 31)) ?_;simp only [nf]
  refine pp rfl rfl (pr_idxS1 (i := 0) rfl rfl Tryd.underlying22 sz5 (by omega)) ?_;simp only [nf]
  refine plan_store1 3 rfl rfl hH rfl rfl rfl rfl sz5 (by simp <;> omega) ?_
  clear hH
  intro w32 hH
  (try simp only [nf, nh, Value.cells, arrB_set] at hH ⊢)
  refine plan_nil hH ?_
  clear hH
  intro w33 hH
  refine hK24 _ _ ?_
  (try clear hK24 K24)
  refine wp_seq_k ?_
  intro K34 hK34
  refine wrt [.p 0, .p 1] ?_
  refine pm (pa ?_);simp only [nf]
  refine plan_nil hH ?_
  clear hH
  intro w35 hH
  refine hK34 _ _ ?_
  (try clear hK34 K34)
  refine wp_ret ?_
  (try simp only [Exit.then, Exit.inBlock, ↓reduceIte, Nat.reduceEqDiff])
  refine BP.ret1 rfl rfl ?_
  exact ⟨_, rfl, hH.chg, (hH.mine 3 rfl).resolve_right (by simp), (hH.say 3 rfl (arr8_congr fun i _ => by unfold maskF; rw [if_neg (fun e => bne_iff_ne.1 e hq)]; rfl)).blk 3 rfl⟩

theorem u8_all (P : UInt8 → Bool) (h : ((List.range 256).all fun i => P (UInt8.ofNat i)) = true) (x : UInt8) : P x = true := by
  have := List.all_eq_true.1 h x.toNat (List.mem_range.2 x.toNat_lt)
  rwa [UInt8.ofNat_toNat] at this
theorem u8_hi (x : UInt8) (h : 128 ≤ x) : (x &&& 128 != 0) = true := by
  have := u8_all (fun x => !decide (128 ≤ x) || (x &&& 128 != 0)) (by decide) x
  simpa [h] using this
theorem u8_lo (x : UInt8) (h : ¬ 128 ≤ x) : ¬ (x &&& 128 != 0) = true := by
  have := u8_all (fun x => decide (128 ≤ x) || (x &&& 128 == 0)) (by decide) x
  simpa [h] using this
theorem u8_mod16 (x : UInt8) : x % 16 = x &&& 15 := eq_of_beq (u8_all (fun x => x % 16 == x &&& 15) (by decide) x)
theorem u8_mod32 (x : UInt8) : x % 32 = x &&& 31 := eq_of_beq (u8_all (fun x => x % 32 == x &&& 31) (by decide) x)
theorem mask_head (K l : List UInt8) (p : Nat) : (maskL K l p).getD 0 0 = if l.getD 0 0 &&& 128 != 0 then maskR K l p 0 &&& 15 else maskR K l p 0 &&& 31 := by
  unfold maskL
  rw [cut16 _ (by decide)]
  unfold maskF; rw [upd_same]
theorem mask_tail (K l : List UInt8) (p i : Nat) (hi : 1 + i < 16) : (maskL K l p).getD (1 + i) 0 = maskR K l p (1 + i) := by
  unfold maskL
  rw [cut16 _ hi]
  unfold maskF; rw [upd_other _ _ _ (by omega)]
theorem samp_at (s : ByteArray) (p : Nat) (hp : p + 20 ≤ s.size) (i : Nat) (hi : i < 16) : (s.extract (p + 4) (p + 20)).data.toList.getD i 0 = (sampL s.data.toList p).getD i 0 := by
  rw [ByteArray.data_extract, Array.toList_extract, List.extract_eq_take_drop]
  unfold sampL
  rw [show p + 20 - (p + 4) = 16 by omega]

theorem masked_calls (a b c s : ByteArray) (p n : Nat) (w : World) (hc : c.size = 16) (hp : p + 20 ≤ s.size) (hn : n ≤ 15) (hs : s.size < 9223372036854775808) : Ret Tryd.prog 26 #[.agg #[.string a, .string b, .string c], .string s, I64 p, I64 n] w fun v w' => v = .string ⟨(hideL s.data.toList (maskL c.data.toList s.data.toList p) p n).toArray⟩ ∧ Chg [] w w' := by
 have hsl : s.data.toList.length = s.size := by simp
 refine Ret.enter Tryd.func26 rfl ?_
 simp only [Tryd.ntmps26, fe, Nat.reduceAdd, Nat.reduceSub]
 have hH := Hp.start [] w
 refine wp_seq_k ?_
 intro K1 hK1
 refine wrt [.x 0, .p 1] ?_
 refine plan_box rfl rfl hH rfl ?_
 clear hH
 intro b2 w3 hH
 (try simp only [nf, nh, Value.cells, arrB_set] at hH ⊢)
 refine pa ?_;simp only [nf]
 refine plan_nil hH ?_
 clear hH
 intro w4 hH
 refine hK1 _ _ ?_
 (try clear hK1 K1)
 refine wp_seq_k ?_
 intro K5 hK5
 refine wrp [.p 0, .p 3, .p 4, .p 5, .p 6, .p 7, .p 8, .q 1, .x 2, .q 9, .p 10] ?_
 refine pp rfl rfl (pr_fieldAddr 2 rfl Tryd.underlying30 rfl rfl sz9) ?_;simp only [nf]
 refine pm (pm ?_);simp only [nf]
 refine pp rfl rfl (pr_bin rfl rfl (by first | exact bin_add_n (n := 4) (by first | omega | (first | (simp; done) | (simp; omega) | (rw [bsz]; simp <;> omega))) | exact bin_add_i (by first | omega | (first | (simp; done) | (simp; omega) | (rw [bsz]; simp <;> omega))) (by first | omega | (first | (simp; done) | (simp; omega) | (rw [bsz]; simp <;> omega))))) ?_;simp only [nf]
 refine pm ?_;simp only [nf]
 refine pp rfl rfl (pr_bin rfl rfl (by first | exact bin_add_n (n := 20) (by first | omega | (first | (simp; done) | (simp; omega) | (rw [bsz]; simp <;> omega))) | exact bin_add_i (by first | omega | (first | (simp; done) | (simp; omega) | (rw [bsz]; simp <;> omega))) (by first | omega | (first | (simp; done) | (simp; omega) | (rw [bsz]; simp <;> omega))))) ?_;simp only [nf]
 refine pp rfl rfl (pr_slice_str_lh rfl rfl rfl Tryd.underlying9 (by first | omega | (first | (simp; done) | (simp; omega) | (rw [bsz]; simp <;> omega))) (by first | omega | (first | (simp; done) | (simp; omega) | (rw [bsz]; simp <;> omega)))) ?_;simp only [nf]
 refine pq rfl rfl (qr_load1 rfl Tryd.underlying9 rfl ((hH.blk 0 rfl).cell rfl)) ?_;simp only [nf]
 refine plan_callx rfl rfl hH cf39 (fun w' hH => ready_calls _ (fun i => c.data.toList.getD i 0) rfl w' (by simpa using hc)) rfl (fun _ _ _ h => h.choose_spec.2.1) ?_
 clear hH
 intro w6 v7 w8 hH hp9
 obtain ⟨b10, rfl, hg, hfr, hbk⟩ := hp9
 replace hH := hH.callnew hg hbk hfr
 clear hg hfr hbk
 (try simp only [nf, nh, Value.cells, arrB_set] at hH ⊢)
 (try simp only [nf])
 refine pq rfl rfl (qr_call cf48 (fun w' hw => refblock_calls _ (fun i => c.data.toList.getD i 0) _ (fun i => (sampL s.data.toList p).getD i 0) (samp_at s p hp) (by rw [ByteArray.size_extract]; omega) w' (hw.nil_blk (hH.blk 1 rfl))) rfl) ?_;simp only [nf]
 refine pa ?_;simp only [nf]
 refine plan_nil hH ?_
 clear hH
 intro w11 hH
 refine hK5 _ _ ?_
 (try clear hK5 K5)
 refine wp_seq_k ?_
 intro K12 hK12
 refine wrt [.p 0, .x 1, .p 2] ?_
 refine pm ?_;simp only [nf]
 refine plan_s2b rfl rfl hH rfl Tryd.underlying9 Tryd.underlying22 Tryd.underlying5 ?_
 clear hH
 intro b13 cap14 cs15 w16 hO17 hH
 (try simp only [nf] at hH ⊢)
 (try simp only [nf, nh, Value.cells, arrB_set] at hH ⊢)
 refine pa ?_;simp only [nf]
 refine plan_nil hH ?_
 clear hH
 intro w18 hH
 refine hK12 _ _ ?_
 (try clear hK12 K12)
 refine wp_seq_k ?_
 intro K19 hK19
 refine wp_seq_k ?_
 intro K20 hK20
 refine wrt [.p 0, .p 1, .p 2] ?_
 refine pm ?_;simp only [nf]
 refine pp rfl rfl (pr_index_strD (i := 0) rfl rfl Tryd.underlying9 (by first | omega | (first | (simp; done) | (simp; omega) | (rw [bsz]; simp <;> omega)))) ?_;simp only [nf]
 refine pp rfl rfl (pr_bin rfl rfl (bin_geq_u8 _ 128)) ?_;simp only [nf]
 refine plan_nil hH ?_
 clear hH
 intro w21 hH
 refine hK20 _ _ ?_
 (try clear hK20 K20)
 refine wp_cond_split rfl (fun hc22 => ?_) (fun hc22 => ?_)
 ·
  (try simp only [cnd] at hc22)
  have hq := hc22
  refine wrp [.p 0, .p 1, .p 2, .p 4, .p 5, .p 6, .q 3, .p 7, .p 8, .e 9] ?_
  refine pm (pm ?_);simp only [nf]
  refine pp rfl rfl (pr_idx_Sl (i := 0) (OwnC.sl hH 2 rfl hO17) rfl rfl Tryd.underlying22 sz5 (by first | omega | (first | (simp; done) | (simp; omega) | (rw [bsz]; simp <;> omega)))) ?_;simp only [nf]
  refine pm ?_;simp only [nf]
  refine pp rfl rfl (pr_index_strD (i := 0) rfl rfl Tryd.underlying9 (by first | omega | (first | (simp; done) | (simp; omega) | (rw [bsz]; simp <;> omega)))) ?_;simp only [nf]
  refine pp rfl rfl (pr_bin rfl rfl (bin_rem_u8 _ 16 (by decide))) ?_;simp only [nf]
  refine pq rfl rfl (qr_load1 rfl Tryd.underlying5 rfl (Sl.cell (i := 0) (OwnC.sl hH 2 rfl hO17) (by first | omega | (first | (simp; done) | (simp; omega) | (rw [bsz]; simp <;> omega))))) ?_;simp only [nf]
  refine pp rfl rfl (pr_bin rfl rfl (bin_xor_u8 _ _)) ?_;simp only [nf]
  refine pp rfl rfl (pr_idx_Sl (i := 0) (OwnC.sl hH 2 rfl hO17) rfl rfl Tryd.underlying22 sz5 (by first | omega | (first | (simp; done) | (simp; omega) | (rw [bsz]; simp <;> omega)))) ?_;simp only [nf]
  refine plan_storeO 2 (j := 0) rfl rfl hH rfl rfl hO17 rfl sz5 (by first | omega | (first | (simp; done) | (simp; omega) | (rw [bsz]; simp <;> omega))) ?_
  clear hH
  intro cs24 w23 hO25 hH
  (try simp only [nf, nh, Value.cells, arrB_set] at hH ⊢)
  refine plan_nil hH ?_
  clear hH
  intro w26 hH
  refine hK19 _ _ ?_
  (try clear hK19 K19)
  refine wp_seq_k ?_
  intro K27 hK27
  refine wp_seq_k ?_
  intro K28 hK28
  refine wrt [.p 0] ?_
  refine pka 0 ?_;simp only [nf]
  refine plan_nil hH ?_
  clear hH
  intro w29 hH
  refine hK28 _ _ ?_
  (try clear hK28 K28)
  refine wp_block ?_
  obtain ⟨kc30, hkc31, hN⟩ := hH.name 0 rfl
  replace hH := hN; clear hN; simp only [List.set_cons_zero, List.set_cons_succ] at hH
  obtain ⟨kc32, hkc33, hN⟩ := hH.name 1 rfl
  replace hH := hN; clear hN; simp only [List.set_cons_zero, List.set_cons_succ] at hH
  refine wp_loopT [11] [45, 46, 47, 48, 49, 50, 51, 52, 53, 54, 55, 56, 57, 58, 59, 60, 61, 62, 63, 64, 65] (fun (n34 : Nat) (vs : List Value) (w' : World) => ∃ (i : Nat) (cs' : Array Value), vs = [I64 (i : Nat)] ∧ Hp [] w w' [(some b2, 30, kc30), (some b10, 103, kc32), (some b13, 5, cs')] ∧ n34 = n - i ∧ i ≤ n ∧ OwnC (some b13) s.size cap14 1 cs' ((hideL s.data.toList (maskL c.data.toList s.data.toList p) p i).map V8)) (n - 0) (by kernel_rfl) ?_ ?_
  ·
   simp only [ga]
   refine ⟨0, cs24, rfl, ?_, rfl, ?_, ?_⟩
   ·
    exact hH
   · first | omega | (omega)
   · first | omega | (unfold hideL; rw [mask_head]; first | (rw [if_pos (u8_hi _ hq), ← u8_mod16]; exact hO25) | (rw [if_neg (u8_lo _ hq), ← u8_mod32]; exact hO25))
  clear hH
  intro n34 vs35 w36 hR37 d0
  obtain ⟨i, cs', rfl, hH, hn38, hf39, hO'⟩ := hR37
  simp only [putAll, putD, List.set_cons_zero, List.set_cons_succ, Nat.zero_add, Nat.reduceAdd]
  have hhl := hideL_len s.data.toList (maskL c.data.toList s.data.toList p) p i
  subst hkc31 hkc33
  refine wp_seq_k ?_
  intro K40 hK40
  refine wp_seq_k ?_
  intro K41 hK41
  refine wrt [.p 0, .p 1, .p 2] ?_
  refine pm (pm ?_);simp only [nf]
  refine pp rfl rfl (pr_bin rfl rfl (by first | exact bin_lss_n  | exact bin_lss_i)) ?_;simp only [nf]
  refine plan_nil hH ?_
  clear hH
  intro w42 hH
  refine hK41 _ _ ?_
  (try clear hK41 K41)
  refine wp_cond_split rfl (fun hc43 => ?_) (fun hc43 => ?_)
  ·
   (try simp only [cnd] at hc43)
   refine wp_skip ?_
   refine hK40 _ _ ?_
   (try clear hK40 K40)
   refine wp_seq_k ?_
   intro K44 hK44
   refine wp_block ?_
   refine wrp [.p 0, .p 1, .p 2, .p 3, .p 4, .p 5, .p 6, .p 7, .p 8, .p 10, .p 11, .p 12, .p 13, .q 9, .p 14, .p 15, .e 16] ?_
   refine pm (pm (pm ?_));simp only [nf]
   refine pp rfl rfl (pr_bin rfl rfl (by first | exact bin_add_n (by first | omega | (first | (simp; done) | (simp; omega) | (rw [bsz]; simp <;> omega))) | exact bin_add_i (by first | omega | (first | (simp; done) | (simp; omega) | (rw [bsz]; simp <;> omega))) (by first | omega | (first | (simp; done) | (simp; omega) | (rw [bsz]; simp <;> omega))))) ?_;simp only [nf]
   refine pm (pm (pm ?_));simp only [nf]
   refine pp rfl rfl (pr_bin rfl rfl (by first | exact bin_add_n (by first | omega | (first | (simp; done) | (simp; omega) | (rw [bsz]; simp <;> omega))) | exact bin_add_i (by first | omega | (first | (simp; done) | (simp; omega) | (rw [bsz]; simp <;> omega))) (by first | omega | (first | (simp; done) | (simp; omega) | (rw [bsz]; simp <;> omega))))) ?_;simp only [nf]
   refine pp rfl rfl (pr_idx_Sl (OwnC.sl hH 2 rfl hO') rfl rfl Tryd.underlying22 sz5 (by first | omega | (first | (simp; done) | (simp; omega) | (rw [bsz]; simp <;> omega)))) ?_;simp only [nf]
   refine pm (pm ?_);simp only [nf]
   refine pp rfl rfl (pr_bin rfl rfl (by first | exact bin_add_n (m := 1) (by first | omega | (first | (simp; done) | (simp; omega) | (rw [bsz]; simp <;> omega))) | exact bin_add_i (by first | omega | (first | (simp; done) | (simp; omega) | (rw [bsz]; simp <;> omega))) (by first | omega | (first | (simp; done) | (simp; omega) | (rw [bsz]; simp <;> omega))))) ?_;simp only [nf]
   refine pp rfl rfl (pr_index_strD rfl rfl Tryd.underlying9 (by first | omega | (first | (simp; done) | (simp; omega) | (rw [bsz]; simp <;> omega)))) ?_;simp only [nf]
   refine pq rfl rfl (qr_load1 rfl Tryd.underlying5 rfl (Sl.cell (OwnC.sl hH 2 rfl hO') (by first | omega | (first | (simp; done) | (simp; omega) | (rw [bsz]; simp <;> omega))))) ?_;simp only [nf]
   refine pp rfl rfl (pr_bin rfl rfl (bin_xor_u8 _ _)) ?_;simp only [nf]
   refine pp rfl rfl (pr_idx_Sl (OwnC.sl hH 2 rfl hO') rfl rfl Tryd.underlying22 sz5 (by first | omega | (first | (simp; done) | (simp; omega) | (rw [bsz]; simp <;> omega)))) ?_;simp only [nf]
   refine plan_storeO 2 rfl rfl hH rfl rfl hO' rfl sz5 (by first | omega | (first | (simp; done) | (simp; omega) | (rw [bsz]; simp <;> omega))) ?_
   clear hH
   intro cs46 w45 hO47 hH
   (try simp only [nf, nh, Value.cells, arrB_set] at hH ⊢)
   refine plan_nil hH ?_
   clear hH
   intro w48 hH
   refine hK44 _ _ ?_
   (try clear hK44 K44)
   refine wrt [.p 0, .p 1, .p 2] ?_
   refine pm ?_;simp only [nf]
   refine pp rfl rfl (pr_bin rfl rfl (by first | exact bin_add_n (n := 1) (by first | omega | (first | (simp; done) | (simp; omega) | (rw [bsz]; simp <;> omega))) | exact bin_add_i (by first | omega | (first | (simp; done) | (simp; omega) | (rw [bsz]; simp <;> omega))) (by first | omega | (first | (simp; done) | (simp; omega) | (rw [bsz]; simp <;> omega))))) ?_;simp only [nf]
   refine pa ?_;simp only [nf]
   refine plan_nil hH ?_
   clear hH
   intro w49 hH
   (try simp only [Exit.then, Exit.inBlock, ↓reduceIte, Nat.reduceEqDiff])
   refine ⟨n - (i + 1), ?_, _, rfl, by kernel_rfl, ?_⟩
   · first | omega | (omega)
   simp only [ga]
   refine ⟨i + 1, cs46, rfl, ?_, rfl, ?_, ?_⟩
   ·
    exact hH
   · first | omega | (omega)
   · first | omega | (unfold hideL; rw [mask_tail _ _ _ _ (by omega)]; have hx := cut16 (maskR c.data.toList s.data.toList p) (show 1 + i < 16 by omega); rw [← hx]; exact hO47)
  ·
   (try simp only [cnd] at hc43)
   refine wp_exit ?_
   (try simp only [Exit.then, Exit.inBlock, ↓reduceIte, Nat.reduceEqDiff])
   refine hK27 _ _ ?_
   (try clear hK27 K27)
   refine wp_seq_k ?_
   intro K50 hK50
   refine wrt [.p 0, .q 1, .p 2] ?_
   refine pm ?_;simp only [nf]
   refine pq rfl rfl (qr_b2s (OwnC.sl hH 2 rfl hO') rfl Tryd.underlying22 Tryd.underlying5 Tryd.underlying9) ?_;simp only [nf]
   refine pa ?_;simp only [nf]
   refine plan_nil hH ?_
   clear hH
   intro w51 hH
   refine hK50 _ _ ?_
   (try clear hK50 K50)
   refine wp_ret ?_
   (try simp only [Exit.then, Exit.inBlock, ↓reduceIte, Nat.reduceEqDiff])
   refine BP.ret1 rfl rfl ?_
   obtain rfl : i = n := by omega
   exact ⟨rfl, hH.chg⟩
 ·
  (try simp only [cnd] at hc22)
  have hq := hc22
  refine wrp [.p 0, .p 1, .p 2, .p 4, .p 5, .p 6, .q 3, .p 7, .p 8, .e 9] ?_
  refine pm (pm ?_);simp only [nf]
  refine pp rfl rfl (pr_idx_Sl (i := 0) (OwnC.sl hH 2 rfl hO17) rfl rfl Tryd.underlying22 sz5 (by first | omega | (first | (simp; done) | (simp; omega) | (rw [bsz]; simp <;> omega)))) ?_;simp only [nf]
  refine pm ?_;simp only [nf]
  refine pp rfl rfl (pr_index_strD (i := 0) rfl rfl Tryd.underlying9 (by first | omega | (first | (simp; done) | (simp; omega) | (rw [bsz]; simp <;> omega)))) ?_;simp only [nf]
  refine pp rfl rfl (pr_bin rfl rfl (bin_rem_u8 _ 32 (by decide))) ?_;simp only [nf]
  refine pq rfl rfl (qr_load1 rfl Tryd.underlying5 rfl (Sl.cell (i := 0) (OwnC.sl hH 2 rfl hO17) (by first | omega | (first | (simp; done) | (simp; omega) | (rw [bsz]; simp <;> omega))))) ?_;simp only [nf]
  refine pp rfl rfl (pr_bin rfl rfl (bin_xor_u8 _ _)) ?_;simp only [nf]
  refine pp rfl rfl (pr_idx_Sl (i := 0) (OwnC.sl hH 2 rfl hO17) rfl rfl Tryd.underlying22 sz5 (by first | omega | (first | (simp; done) | (simp; omega) | (rw [bsz]; simp <;> omega)))) ?_;simp only [nf]
  refine plan_storeO 2 (j := 0) rfl rfl hH rfl rfl hO17 rfl sz5 (by first | omega | (first | (simp; done) | (simp; omega) | (rw [bsz]; simp <;> omega))) ?_
  clear hH
  intro cs53 w52 hO54 hH
  (try simp only [nf, nh, Value.cells, arrB_set] at hH ⊢)
  refine plan_nil hH ?_
  clear hH
  intro w55 hH
  refine hK19 _ _ ?_
  (try clear hK19 K19)
  refine wp_seq_k ?_
  intro K56 hK56
  refine wp_seq_k ?_
  intro K57 hK57
  refine wrt [.p 0] ?_
  refine pka 0 ?_;simp only [nf]
  refine plan_nil hH ?_
  clear hH
  intro w58 hH
  refine hK57 _ _ ?_
  (try clear hK57 K57)
  refine wp_block ?_
  obtain ⟨kc59, hkc60, hN⟩ := hH.name 0 rfl
  replace hH := hN; clear hN; simp only [List.set_cons_zero, List.set_cons_succ] at hH
  obtain ⟨kc61, hkc62, hN⟩ := hH.name 1 rfl
  replace hH := hN; clear hN; simp only [List.set_cons_zero, List.set_cons_succ] at hH
  refine wp_loopT [11] [45, 46, 47, 48, 49, 50, 51, 52, 53, 54, 55, 56, 57, 58, 59, 60, 61, 62, 63, 64, 65] (fun (n63 : Nat) (vs : List Value) (w' : World) => ∃ (i : Nat) (cs' : Array Value), vs = [I64 (i : Nat)] ∧ Hp [] w w' [(some b2, 30, kc59), (some b10, 103, kc61), (some b13, 5, cs')] ∧ n63 = n - i ∧ i ≤ n ∧ OwnC (some b13) s.size cap14 1 cs' ((hideL s.data.toList (maskL c.data.toList s.data.toList p) p i).map V8)) (n - 0) (by kernel_rfl) ?_ ?_
  ·
   simp only [ga]
   refine ⟨0, cs53, rfl, ?_, rfl, ?_, ?_⟩
   ·
    exact hH
   · first | omega | (omega)
   · first | omega | (unfold hideL; rw [mask_head]; first | (rw [if_pos (u8_hi _ hq), ← u8_mod16]; exact hO54) | (rw [if_neg (u8_lo _ hq), ← u8_mod32]; exact hO54))
  clear hH
  intro n63 vs64 w65 hR66 d0
  obtain ⟨i, cs', rfl, hH, hn67, hf68, hO'⟩ := hR66
  simp only [putAll, putD, List.set_cons_zero, List.set_cons_succ, Nat.zero_add, Nat.reduceAdd]
  have hhl := hideL_len s.data.toList (maskL c.data.toList s.data.toList p) p i
  subst hkc60 hkc62
  refine wp_seq_k ?_
  intro K69 hK69
  refine wp_seq_k ?_
  intro K70 hK70
  refine wrt [.p 0, .p 1, .p 2] ?_
  refine pm (pm ?_);simp only [nf]
  refine pp rfl rfl (pr_bin rfl rfl (by first | exact bin_lss_n  | exact bin_lss_i)) ?_;simp only [nf]
  refine plan_nil hH ?_
  clear hH
  intro w71 hH
  refine hK70 _ _ ?_
  (try clear hK70 K70)
  refine wp_cond_split rfl (fun hc72 => ?_) (fun hc72 => ?_)
  ·
   (try simp only [cnd] at hc72)
   refine wp_skip ?_
   refine hK69 _ _ ?_
   (try clear hK69 K69)
   refine wp_seq_k ?_
   intro K73 hK73
   refine wp_block ?_
   refine wrp [.p 0, .p 1, .p 2, .p 3, .p 4, .p 5, .p 6, .p 7, .p 8, .p 10, .p 11, .p 12, .p 13, .q 9, .p 14, .p 15, .e 16] ?_
   refine pm (pm (pm ?_));simp only [nf]
   refine pp rfl rfl (pr_bin rfl rfl (by first | exact bin_add_n (by first | omega | (first | (simp; done) | (simp; omega) | (rw [bsz]; simp <;> omega))) | exact bin_add_i (by first | omega | (first | (simp; done) | (simp; omega) | (rw [bsz]; simp <;> omega))) (by first | omega | (first | (simp; done) | (simp; omega) | (rw [bsz]; simp <;> omega))))) ?_;simp only [nf]
   refine pm (pm (pm ?_));simp only [nf]
   refine pp rfl rfl (pr_bin rfl rfl (by first | exact bin_add_n (by first | omega | (first | (simp; done) | (simp; omega) | (rw [bsz]; simp <;> omega))) | exact bin_add_i (by first | omega | (first | (simp; done) | (simp; omega) | (rw [bsz]; simp <;> omega))) (by first | omega | (first | (simp; done) | (simp; omega) | (rw [bsz]; simp <;> omega))))) ?_;simp only [nf]
   refine pp rfl rfl (pr_idx_Sl (OwnC.sl hH 2 rfl hO') rfl rfl Tryd.underlying22 sz5 (by first | omega | (first | (simp; done) | (simp; omega) | (rw [bsz]; simp <;> omega)))) ?_;simp only [nf]
   refine pm (pm ?_);simp only [nf]
   refine pp rfl rfl (pr_bin rfl rfl (by first | exact bin_add_n (m := 1) (by first | omega | (first | (simp; done) | (simp; omega) | (rw [bsz]; simp <;> omega))) | exact bin_add_i (by first | omega | (first | (simp; done) | (simp; omega) | (rw [bsz]; simp <;> omega))) (by first | omega | (first | (simp; done) | (simp; omega) | (rw [bsz]; simp <;> omega))))) ?_;simp only [nf]
   refine pp rfl rfl (pr_index_strD rfl rfl Tryd.underlying9 (by first | omega | (first | (simp; done) | (simp; omega) | (rw [bsz]; simp <;> omega)))) ?_;simp only [nf]
   refine pq rfl rfl (qr_load1 rfl Tryd.underlying5 rfl (Sl.cell (OwnC.sl hH 2 rfl hO') (by first | omega | (first | (simp; done) | (simp; omega) | (rw [bsz]; simp <;> omega))))) ?_;simp only [nf]
   refine pp rfl rfl (pr_bin rfl rfl (bin_xor_u8 _ _)) ?_;simp only [nf]
   refine pp rfl rfl (pr_idx_Sl (OwnC.sl hH 2 rfl hO') rfl rfl Tryd.underlying22 sz5 (by first | omega | (first | (simp; done) | (simp; omega) | (rw [bsz]; simp <;> omega)))) ?_;simp only [nf]
   refine plan_storeO 2 rfl rfl hH rfl rfl hO' rfl sz5 (by first | omega | (first | (simp; done) | (simp; omega) | (rw [bsz]; simp <;> omega))) ?_
   clear hH
   intro cs75 w74 hO76 hH
   (try simp only [nf, nh, Value.cells, arrB_set] at hH ⊢)
   refine plan_nil hH ?_
   clear hH
   intro w77 hH
   refine hK73 _ _ ?_
   (try clear hK73 K73)
   refine wrt [.p 0, .p 1, .p 2] ?_
   refine pm ?_;simp only [nf]
   refine pp rfl rfl (pr_bin rfl rfl (by first | exact bin_add_n (n := 1) (by first | omega | (first | (simp; done) | (simp; omega) | (rw [bsz]; simp <;> omega))) | exact bin_add_i (by first | omega | (first | (simp; done) | (simp; omega) | (rw [bsz]; simp <;> omega))) (by first | omega | (first | (simp; done) | (simp; omega) | (rw [bsz]; simp <;> omega))))) ?_;simp only [nf]
   refine pa ?_;simp only [nf]
   refine plan_nil hH ?_
   clear hH
   intro w78 hH
   (try simp only [Exit.then, Exit.inBlock, ↓reduceIte, Nat.reduceEqDiff])
   refine ⟨n - (i + 1), ?_, _, rfl, by kernel_rfl, ?_⟩
   · first | omega | (omega)
   simp only [ga]
   refine ⟨i + 1, cs75, rfl, ?_, rfl, ?_, ?_⟩
   ·
    exact hH
   · first | omega | (omega)
   · first | omega | (unfold hideL; rw [mask_tail _ _ _ _ (by omega)]; have hx := cut16 (maskR c.data.toList s.data.toList p) (show 1 + i < 16 by omega); rw [← hx]; exact hO76)
  ·
   (try simp only [cnd] at hc72)
   refine wp_exit ?_
   (try simp only [Exit.then, Exit.inBlock, ↓reduceIte, Nat.reduceEqDiff])
   refine hK56 _ _ ?_
   (try clear hK56 K56)
   refine wp_seq_k ?_
   intro K79 hK79
   refine wrt [.p 0, .q 1, .p 2] ?_
   refine pm ?_;simp only [nf]
   refine pq rfl rfl (qr_b2s (OwnC.sl hH 2 rfl hO') rfl Tryd.underlying22 Tryd.underlying5 Tryd.underlying9) ?_;simp only [nf]
   refine pa ?_;simp only [nf]
   refine plan_nil hH ?_
   clear hH
   intro w80 hH
   refine hK79 _ _ ?_
   (try clear hK79 K79)
   refine wp_ret ?_
   (try simp only [Exit.then, Exit.inBlock, ↓reduceIte, Nat.reduceEqDiff])
   refine BP.ret1 rfl rfl ?_
   obtain rfl : i = n := by omega
   exact ⟨rfl, hH.chg⟩

end Go.Proofs.YtmoaddicejohgaaDoor
