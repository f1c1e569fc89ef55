/- Packed: Guard4, Guard5, Guard6, Frame, Wide, GcmH, GcmT, Guard8, ShaT, Guard1, Join, Guard7, Plus, Guard9, as far as guardApartCard_holds needs them. No conditions but those that stand in the statements. -/
import Derived.Test.YtmoaddicejohgaaDoorKA1
import Derived.Carry
import Derived.OpenShut
import Derived.Handed
import Derived.ProofKit
import Derived.HandedShaped
set_option linter.unusedSimpArgs false
set_option linter.unusedVariables false
set_option maxRecDepth 100000
set_option maxHeartbeats 4000000
namespace Go.Proofs.YtmoaddicejohgaaDoor
open Go
open List (getD_cons_zero getD_cons_succ set_cons_zero set_cons_succ)
def wholeN (low size e : Nat) : Nat :=
  if e / 2 ^ (8 * size) * 2 ^ (8 * size) + low + 2 ^ (8 * size) / 2 ≤ e ∧ e / 2 ^ (8 * size) * 2 ^ (8 * size) + low + 2 ^ (8 * size) ≤ 4611686018427387903 then e / 2 ^ (8 * size) * 2 ^ (8 * size) + low + 2 ^ (8 * size)
  else if e + 2 ^ (8 * size) / 2 < e / 2 ^ (8 * size) * 2 ^ (8 * size) + low ∧ 2 ^ (8 * size) ≤ e / 2 ^ (8 * size) * 2 ^ (8 * size) + low then e / 2 ^ (8 * size) * 2 ^ (8 * size) + low - 2 ^ (8 * size)
  else e / 2 ^ (8 * size) * 2 ^ (8 * size) + low
theorem whole_bits (e low k : Nat) (hl : low < 2 ^ k) (he : e < 9223372036854775808) (hk : k ≤ 32) : (e &&& (18446744073709551615 - (2 ^ k - 1))) ||| low = e / 2 ^ k * 2 ^ k + low := by
  have h1 : e / 2 ^ k * 2 ^ k + low = (e / 2 ^ k * 2 ^ k) ||| low := by
    rw [Nat.mul_comm, Nat.two_pow_add_eq_or_of_lt hl]
  rw [h1]
  congr 1
  apply Nat.eq_of_testBit_eq
  intro i
  have hp : 2 ^ k ≤ 2 ^ 32 := Nat.pow_le_pow_right (by decide) hk
  have h64 : (2 : Nat) ^ 64 = 18446744073709551616 := rfl
  have e1 : 18446744073709551615 - (2 ^ k - 1) = 2 ^ 64 - (2 ^ k - 1 + 1) := by omega
  have hp0 : 0 < 2 ^ k := Nat.two_pow_pos k
  have h6432 : (2 : Nat) ^ 32 ≤ 2 ^ 64 := Nat.pow_le_pow_right (by decide) (by decide)
  rw [Nat.testBit_and, e1, Nat.testBit_two_pow_sub_succ (by omega), Nat.testBit_two_pow_sub_one, Nat.mul_comm, Nat.testBit_two_pow_mul, Nat.testBit_div_two_pow]
  by_cases hik : i < k
  · rw [decide_eq_true hik]
    have : decide (i ≥ k) = false := decide_eq_false (by omega)
    rw [this]; simp
  · have : decide (i ≥ k) = true := decide_eq_true (by omega)
    rw [decide_eq_false hik, this]
    by_cases hi : i < 64
    · rw [decide_eq_true hi, show i - k + k = i by omega]; simp
    · have h2 : e.testBit i = false := Nat.testBit_lt_two_pow (Nat.lt_of_lt_of_le he (by
        have : (2 : Nat) ^ 64 ≤ 2 ^ i := Nat.pow_le_pow_right (by decide) (by omega)
        omega))
      rw [show i - k + k = i by omega, h2]; simp
theorem pow_size (s : Nat) (h1 : 1 ≤ s) (h4 : s ≤ 4) : 256 ≤ 2 ^ (8 * s) ∧ 2 ^ (8 * s) ≤ 4294967296 ∧ 2 ^ (8 * s) % 2 = 0 := by
  obtain rfl | rfl | rfl | rfl : s = 1 ∨ s = 2 ∨ s = 3 ∨ s = 4 := by omega
  all_goals decide
theorem pkwhole_calls (low size e : Nat) (w : World) (h1 : 1 ≤ size) (h4 : size ≤ 4) (hl : low < 2 ^ (8 * size)) (he : e ≤ 4611686018427387903) : Ret Tryd.prog 35 #[I64 low, I64 size, I64 e] w fun v w' => v = .tuple #[I64 (wholeN low size e : Nat), I64 (0 : Nat)] ∧ Chg [] w w' := by
 obtain ⟨hw1, hw2, hw3⟩ := pow_size size h1 h4
 have hwb := whole_bits e low (8 * size) hl (by omega) (by omega)
 have hdm : e / 2 ^ (8 * size) * 2 ^ (8 * size) ≤ e := Nat.div_mul_le_self _ _
 have hand : e &&& (18446744073709551615 - (2 ^ (8 * size) - 1)) ≤ e := Nat.and_le_left
 refine Ret.enter Tryd.func35 rfl ?_
 simp only [Tryd.ntmps35, fe, Nat.reduceAdd, Nat.reduceSub]
 have hH := Hp.start [] w
 refine wp_seq_k ?_
 intro K1 hK1
 refine wrt [.p 0, .p 1] ?_
 refine pka 0 (pka 0 ?_);simp only [nf]
 refine plan_nil hH ?_
 clear hH
 intro w2 hH
 refine hK1 _ _ ?_
 (try clear hK1 K1)
 refine wp_seq_k ?_
 intro K3 hK3
 refine wp_seq_k ?_
 intro K4 hK4
 refine wrt [.p 0, .q 1, .p 2, .p 3, .p 4, .p 5, .p 6, .p 7, .p 8, .q 9, .p 10, .p 11, .p 12, .p 13, .q 14, .p 15, .p 16] ?_
 refine pm ?_;simp only [nf]
 refine pq rfl rfl (qr_call cf49 (fun w' hw => within_calls _ 1 4 w' (by omega)) rfl) ?_;simp only [nf]
 refine pp rfl rfl (pr_not rfl) ?_;simp only [nf]
 refine plan_p (v := BV false) rfl rfl (pr_move_v rfl) ?_
 (try simp only [nf])
 refine pp rfl rfl pr_move ?_;simp only [nf]
 refine pp rfl rfl pr_move ?_;simp only [nf]
 refine pp rfl rfl (pr_bin rfl rfl (by first | exact bin_mul_n (m := 8) (by omega) | exact bin_mul_i (by omega) (by omega))) ?_;simp only [nf]
 refine pp rfl rfl (pr_bin rfl rfl (bin_shl_n (m := 1) (by omega) (by omega))) ?_;simp only [nf]
 refine pp rfl rfl (pr_bin rfl rfl (by first | exact bin_sub_n (n := 1) (by omega) (by omega) | exact bin_sub_i (by omega) (by omega))) ?_;simp only [nf]
 refine pq rfl rfl (qr_call cf49 (fun w' hw => within_calls _ 0 _ w' (by omega)) rfl) ?_;simp only [nf]
 refine pp rfl rfl (pr_not rfl) ?_;simp only [nf]
 refine pp rfl rfl (pr_pick_f rfl) ?_;simp only [nf]
 refine plan_p (v := BV false) rfl rfl (pr_move_v rfl) ?_
 (try simp only [nf])
 refine pp rfl rfl pr_move ?_;simp only [nf]
 refine pq rfl rfl (qr_call cf49 (fun w' hw => within_calls _ 0 4611686018427387903 w' (by omega)) rfl) ?_;simp only [nf]
 refine pp rfl rfl (pr_not rfl) ?_;simp only [nf]
 refine pp rfl rfl (pr_pick_f rfl) ?_;simp only [nf]
 refine plan_nil hH ?_
 clear hH
 intro w5 hH
 refine hK4 _ _ ?_
 (try clear hK4 K4)
 refine wp_cond_false rfl ?_
 refine wp_skip ?_
 refine hK3 _ _ ?_
 (try clear hK3 K3)
 refine wp_seq_k ?_
 intro K6 hK6
 refine wrt [.p 0, .p 1, .p 2, .p 3] ?_
 refine pm ?_;simp only [nf]
 refine pp rfl rfl (pr_bin rfl rfl (by first | exact bin_mul_n (m := 8) (by omega) | exact bin_mul_i (by omega) (by omega))) ?_;simp only [nf]
 refine pp rfl rfl (pr_bin rfl rfl (bin_shl_n (m := 1) (by omega) (by omega))) ?_;simp only [nf]
 refine pa ?_;simp only [nf]
 refine plan_nil hH ?_
 clear hH
 intro w7 hH
 simp only [Nat.one_mul]
 refine hK6 _ _ ?_
 (try clear hK6 K6)
 refine wp_seq_k ?_
 intro K8 hK8
 refine wrt [.p 0, .p 1, .p 2, .p 3, .p 4, .p 5, .p 6] ?_
 refine pm (pm ?_);simp only [nf]
 refine pp rfl rfl (pr_bin rfl rfl (by first | exact bin_sub_n (n := 1) (by omega) (by omega) | exact bin_sub_i (by omega) (by omega))) ?_;simp only [nf]
 refine pp rfl rfl (pr_bin rfl rfl (by first | exact bin_andNot_n (by omega) (by omega))) ?_;simp only [nf]
 refine pm ?_;simp only [nf]
 refine pp rfl rfl (pr_bin rfl rfl (by first | exact bin_or_n (by omega) (by omega))) ?_;simp only [nf]
 refine pa ?_;simp only [nf]
 refine plan_nil hH ?_
 clear hH
 intro w9 hH
 rw [hwb]
 refine hK8 _ _ ?_
 (try clear hK8 K8)
 refine wp_seq_k ?_
 intro K10 hK10
 refine wp_block ?_
 refine wp_seq_k ?_
 intro K11 hK11
 refine wrt [.p 0, .p 1, .p 2, .p 3, .p 4, .p 5, .p 6, .p 7, .p 8, .p 9, .p 10, .p 11, .p 12] ?_
 refine pm (pm (pm ?_));simp only [nf]
 refine pp rfl rfl (pr_bin rfl rfl (by first | exact bin_quo_n (n := 2) (by omega) (by omega))) ?_;simp only [nf]
 refine pp rfl rfl (pr_bin rfl rfl (by first | exact bin_sub_n (by omega) (by omega) | exact bin_sub_i (by omega) (by omega))) ?_;simp only [nf]
 refine pp rfl rfl (pr_bin rfl rfl (by first | exact bin_leq_n  | exact bin_leq_i)) ?_;simp only [nf]
 refine pm ?_;simp only [nf]
 refine plan_pc_t rfl rfl rfl (fun hb => by have hb' := hb; try simp only [gsl] at hb'; rw [hb]; exact pr_move) ?_
 (try simp only [nf])
 refine plan_pc_t rfl rfl rfl (fun hb => by have hb' := hb; try simp only [gsl] at hb'; rw [hb]; exact pr_move) ?_
 (try simp only [nf])
 refine plan_pc_t rfl rfl rfl (fun hb => by have hb' := hb; try simp only [gsl] at hb'; rw [hb]; exact (pr_bin rfl rfl (by first | exact bin_sub_n (m := 4611686018427387903) (by omega) (by omega) | exact bin_sub_i (by omega) (by omega)))) ?_
 (try simp only [nf])
 refine plan_pc_t rfl rfl rfl (fun hb => by have hb' := hb; try simp only [gsl] at hb'; rw [hb]; exact (pr_bin rfl rfl (by first | exact bin_leq_n  | exact bin_leq_i))) ?_
 (try simp only [nf])
 refine pp rfl rfl (pr_pick_and rfl rfl rfl) ?_;simp only [nf]
 refine pa ?_;simp only [nf]
 refine plan_nil hH ?_
 clear hH
 intro w12 hH
 refine hK11 _ _ ?_
 (try clear hK11 K11)
 refine wp_cond_split rfl (fun hc13 => ?_) (fun hc13 => ?_)
 ·
  (try simp only [cnd, Bool.and_eq_true, Bool.and_eq_false_iff, Bool.or_eq_true, Bool.or_eq_false_iff] at hc13)
  refine wp_seq_k ?_
  intro K14 hK14
  refine wrt [.p 0, .p 1, .p 2, .p 3, .p 4] ?_
  refine pm (pm ?_);simp only [nf]
  refine pp rfl rfl (pr_bin rfl rfl (by first | exact bin_add_n (by omega) | exact bin_add_i (by omega) (by omega))) ?_;simp only [nf]
  refine pa (pka 0 ?_);simp only [nf]
  refine plan_nil hH ?_
  clear hH
  intro w15 hH
  refine hK14 _ _ ?_
  (try clear hK14 K14)
  refine wp_ret ?_
  (try simp only [Exit.then, Exit.inBlock, ↓reduceIte, Nat.reduceEqDiff])
  refine BP.ret2 rfl rfl rfl ?_
  first | (exact ⟨congrArg (fun n : Nat => Value.tuple #[I64 (n : Nat), I64 (0 : Nat)]) (by unfold wholeN; rw [if_pos (by omega)]), hH.chg⟩) | (exact ⟨congrArg (fun n : Nat => Value.tuple #[I64 (n : Nat), I64 (0 : Nat)]) (by unfold wholeN; rw [if_neg (by omega), if_pos (by omega)]), hH.chg⟩) | (exact ⟨congrArg (fun n : Nat => Value.tuple #[I64 (n : Nat), I64 (0 : Nat)]) (by unfold wholeN; rw [if_neg (by omega), if_neg (by omega)]), hH.chg⟩)
 ·
  (try simp only [cnd, Bool.and_eq_true, Bool.and_eq_false_iff, Bool.or_eq_true, Bool.or_eq_false_iff] at hc13)
  refine wp_seq_k ?_
  intro K16 hK16
  refine wrt [.p 0, .p 1, .p 2, .p 3, .p 4, .p 5, .p 6, .p 7, .p 8, .p 9, .p 10, .p 11] ?_
  refine pm (pm (pm ?_));simp only [nf]
  refine pp rfl rfl (pr_bin rfl rfl (by first | exact bin_quo_n (n := 2) (by omega) (by omega))) ?_;simp only [nf]
  refine pp rfl rfl (pr_bin rfl rfl (by first | exact bin_add_n (by omega) | exact bin_add_i (by omega) (by omega))) ?_;simp only [nf]
  refine pp rfl rfl (pr_bin rfl rfl (by first | exact bin_gtr_n  | exact bin_gtr_i)) ?_;simp only [nf]
  refine pm ?_;simp only [nf]
  refine plan_pc_t rfl rfl rfl (fun hb => by have hb' := hb; try simp only [gsl] at hb'; rw [hb]; exact pr_move) ?_
  (try simp only [nf])
  refine plan_pc_t rfl rfl rfl (fun hb => by have hb' := hb; try simp only [gsl] at hb'; rw [hb]; exact pr_move) ?_
  (try simp only [nf])
  refine plan_pc_t rfl rfl rfl (fun hb => by have hb' := hb; try simp only [gsl] at hb'; rw [hb]; exact (pr_bin rfl rfl (by first | exact bin_geq_n  | exact bin_geq_i))) ?_
  (try simp only [nf])
  refine pp rfl rfl (pr_pick_and rfl rfl rfl) ?_;simp only [nf]
  refine pa ?_;simp only [nf]
  refine plan_nil hH ?_
  clear hH
  intro w17 hH
  refine hK16 _ _ ?_
  (try clear hK16 K16)
  refine wp_cond_split rfl (fun hc18 => ?_) (fun hc18 => ?_)
  ·
   (try simp only [cnd, Bool.and_eq_true, Bool.and_eq_false_iff, Bool.or_eq_true, Bool.or_eq_false_iff] at hc18)
   refine wp_seq_k ?_
   intro K19 hK19
   refine wrt [.p 0, .p 1, .p 2, .p 3, .p 4] ?_
   refine pm (pm ?_);simp only [nf]
   refine pp rfl rfl (pr_bin rfl rfl (by first | exact bin_sub_n (by omega) (by omega) | exact bin_sub_i (by omega) (by omega))) ?_;simp only [nf]
   refine pa (pka 0 ?_);simp only [nf]
   refine plan_nil hH ?_
   clear hH
   intro w20 hH
   refine hK19 _ _ ?_
   (try clear hK19 K19)
   refine wp_ret ?_
   (try simp only [Exit.then, Exit.inBlock, ↓reduceIte, Nat.reduceEqDiff])
   refine BP.ret2 rfl rfl rfl ?_
   first | (exact ⟨congrArg (fun n : Nat => Value.tuple #[I64 (n : Nat), I64 (0 : Nat)]) (by unfold wholeN; rw [if_pos (by omega)]), hH.chg⟩) | (exact ⟨congrArg (fun n : Nat => Value.tuple #[I64 (n : Nat), I64 (0 : Nat)]) (by unfold wholeN; rw [if_neg (by omega), if_pos (by omega)]), hH.chg⟩) | (exact ⟨congrArg (fun n : Nat => Value.tuple #[I64 (n : Nat), I64 (0 : Nat)]) (by unfold wholeN; rw [if_neg (by omega), if_neg (by omega)]), hH.chg⟩)
  ·
   (try simp only [cnd, Bool.and_eq_true, Bool.and_eq_false_iff, Bool.or_eq_true, Bool.or_eq_false_iff] at hc18)
   refine wp_skip ?_
   refine hK10 _ _ ?_
   (try clear hK10 K10)
   refine wp_seq_k ?_
   intro K21 hK21
   refine wrt [.p 0, .p 1, .p 2] ?_
   refine pm (pa (pka 0 ?_));simp only [nf]
   refine plan_nil hH ?_
   clear hH
   intro w22 hH
   refine hK21 _ _ ?_
   (try clear hK21 K21)
   refine wp_ret ?_
   (try simp only [Exit.then, Exit.inBlock, ↓reduceIte, Nat.reduceEqDiff])
   refine BP.ret2 rfl rfl rfl ?_
   first | (exact ⟨congrArg (fun n : Nat => Value.tuple #[I64 (n : Nat), I64 (0 : Nat)]) (by unfold wholeN; rw [if_pos (by omega)]), hH.chg⟩) | (exact ⟨congrArg (fun n : Nat => Value.tuple #[I64 (n : Nat), I64 (0 : Nat)]) (by unfold wholeN; rw [if_neg (by omega), if_pos (by omega)]), hH.chg⟩) | (exact ⟨congrArg (fun n : Nat => Value.tuple #[I64 (n : Nat), I64 (0 : Nat)]) (by unfold wholeN; rw [if_neg (by omega), if_neg (by omega)]), hH.chg⟩)
theorem clone_calls (v : Value) (l : List UInt8) (w : World) (hv : Sl w v l) (hne : l ≠ []) (hl : l.length ≤ 140737488355328) : Ret Tryd.prog 30 #[v] w fun v' w' => ∃ o cap cs, v' = own o l.length cap ∧ Chg [] w w' ∧ OwnC o l.length cap 1 cs ((l).map V8) ∧ ∀ b, o = some b → w.heap.size ≤ b ∧ Blk w' b 5 cs := by
 refine Ret.enter Tryd.func30 rfl ?_
 simp only [Tryd.ntmps30, fe, Nat.reduceAdd, Nat.reduceSub]
 have hH := Hp.start [] w
 refine wp_seq_k ?_
 intro K1 hK1
 refine wrt [.p 0] ?_
 refine pa ?_;simp only [nf]
 refine plan_nil hH ?_
 clear hH
 intro w2 hH
 refine hK1 _ _ ?_
 (try clear hK1 K1)
 refine wp_seq_k ?_
 intro K3 hK3
 refine wp_seq_k ?_
 intro K4 hK4
 refine wrt [.p 0, .p 1] ?_
 refine pm ?_;simp only [nf]
 refine pp rfl rfl (pr_bin rfl rfl (bin_eql_Sl (hv.chg hH.chg) hne Tryd.underlying22)) ?_;simp only [nf]
 refine plan_nil hH ?_
 clear hH
 intro w5 hH
 refine hK4 _ _ ?_
 (try clear hK4 K4)
 refine wp_cond_false rfl ?_
 refine wp_skip ?_
 refine hK3 _ _ ?_
 (try clear hK3 K3)
 refine wp_seq_k ?_
 intro K6 hK6
 refine wrt [.x 0, .p 1, .e 2, .p 3] ?_
 refine plan_buildSlice rfl rfl hH Tryd.underlying22 (by rfl) (bs0 ) ?_
 clear hH
 intro b7 w8 hH
 (try simp only [nf, nh, Value.cells, arrB_set] at hH ⊢)
 refine pm ?_;simp only [nf]
 refine plan_append 0 rfl rfl hH rfl (OwnC.of_bytes rfl) (fun w' hH => ((hv.chg hH.chg)).src) rfl rfl Tryd.underlying22 Tryd.underlying22 (.inl ⟨_, rfl⟩) sz5 bz5 ze5 rfl (by first | omega | (simp <;> omega)) (by first | omega | (simp <;> omega)) ?_
 clear hH
 intro o9 cap10 cs11 w12 hO13 hH
 (try simp only [nf] at hH ⊢)
 (try simp only [nf, nh, Value.cells, arrB_set] at hH ⊢)
 try rw [← List.map_append] at hO13
 (try simp only [Nat.zero_add, List.nil_append, List.length_nil] at hO13 ⊢)
 refine pa ?_;simp only [nf]
 refine plan_nil hH ?_
 clear hH
 intro w14 hH
 refine hK6 _ _ ?_
 (try clear hK6 K6)
 refine wp_ret ?_
 (try simp only [Exit.then, Exit.inBlock, ↓reduceIte, Nat.reduceEqDiff])
 refine BP.ret1 rfl rfl ?_
 exact ⟨_, _, _, rfl, hH.chg, (by assumption), hH.owned 0 rfl⟩
def hideL (l ml : List UInt8) (p : Nat) : Nat → List UInt8
  | 0 => l.set 0 (l.getD 0 0 ^^^ ml.getD 0 0)
  | i + 1 => (hideL l ml p i).set (p + i) ((hideL l ml p i).getD (p + i) 0 ^^^ ml.getD (1 + i) 0)
@[simp] theorem hideL_len (l ml : List UInt8) (p n : Nat) : (hideL l ml p n).length = l.length := by
  induction n with
  | zero => simp [hideL]
  | succ n ih => simp [hideL, ih]
def sampL (l : List UInt8) (p : Nat) : List UInt8 := (l.drop (p + 4)).take 16
def maskR (K : List UInt8) (l : List UInt8) (p : Nat) : Nat → UInt8 := aesR (kexp fun i => K.getD i 0) (fun i => (sampL l p).getD i 0) 10
def maskF (K l : List UInt8) (p : Nat) : Nat → UInt8 := upd (maskR K l p) 0 (if l.getD 0 0 &&& 128 != 0 then maskR K l p 0 &&& 15 else maskR K l p 0 &&& 31)
def maskL (K l : List UInt8) (p : Nat) : List UInt8 := (List.range 16).map (maskF K l p)
@[simp] theorem maskL_len (K l : List UInt8) (p : Nat) : (maskL K l p).length = 16 := by simp [maskL]
theorem sampL_len (l : List UInt8) (p : Nat) (h : p + 20 ≤ l.length) : (sampL l p).length = 16 := by unfold sampL; rw [List.length_take, List.length_drop]; omega
theorem hide_calls (b cap m : Nat) (cs : Array Value) (l ml : List UInt8) (mv : Value) (p n : Nat) (w : World) (hlm : l.length = m) (hb : Blk w b 5 cs) (hO : OwnC (some b) m cap 1 cs (l.map V8)) (hm : ∀ w', Chg [b] w w' → Sl w' mv ml) (h1 : 1 ≤ l.length) (h2 : p + n ≤ l.length) (h3 : n + 1 ≤ ml.length) (h4 : l.length < 9223372036854775808) : Ret Tryd.prog 31 #[own (some b) m cap, mv, I64 p, I64 n] w fun v w' => v = .tuple #[] ∧ Chg [b] w w' ∧ ∃ cs', Blk w' b 5 cs' ∧ OwnC (some b) m cap 1 cs' ((hideL l ml p n).map V8) := by
 subst hlm
 refine Ret.enter Tryd.func31 rfl ?_
 simp only [Tryd.ntmps31, fe, Nat.reduceAdd, Nat.reduceSub]
 have hH := Hp.start1 hb
 refine wp_seq_k ?_
 intro K1 hK1
 refine wrp [.p 0, .p 1, .p 3, .p 4, .q 2, .q 5, .p 6, .p 7, .e 8] ?_
 refine pm ?_;simp only [nf]
 refine pp rfl rfl (pr_idx_Sl (i := 0) (OwnC.sl hH 0 rfl hO) rfl rfl Tryd.underlying22 sz5 (by first | omega | ((try simp only [hideL_len]); omega))) ?_;simp only [nf]
 refine pm ?_;simp only [nf]
 refine pp rfl rfl (pr_idx_Sl (i := 0) (hm _ hH.chg) rfl rfl Tryd.underlying22 sz5 (by first | omega | ((try simp only [hideL_len]); omega))) ?_;simp only [nf]
 refine pq rfl rfl (qr_load1 rfl Tryd.underlying5 rfl (Sl.cell (i := 0) (OwnC.sl hH 0 rfl hO) (by first | omega | ((try simp only [hideL_len]); omega)))) ?_;simp only [nf]
 refine pq rfl rfl (qr_load1 rfl Tryd.underlying5 rfl (Sl.cell (i := 0) (hm _ hH.chg) (by first | omega | ((try simp only [hideL_len]); omega)))) ?_;simp only [nf]
 refine pp rfl rfl (pr_bin rfl rfl (bin_xor_u8 _ _)) ?_;simp only [nf]
 refine pp rfl rfl (pr_idx_Sl (i := 0) (OwnC.sl hH 0 rfl hO) rfl rfl Tryd.underlying22 sz5 (by first | omega | ((try simp only [hideL_len]); omega))) ?_;simp only [nf]
 refine plan_storeO 0 (j := 0) rfl rfl hH rfl rfl hO rfl sz5 (by first | omega | ((try simp only [hideL_len]); omega)) ?_
 clear hH
 intro cs3 w2 hO4 hH
 (try simp only [nf, nh, Value.cells, arrB_set] at hH ⊢)
 refine plan_nil hH ?_
 clear hH
 intro w5 hH
 refine hK1 _ _ ?_
 (try clear hK1 K1)
 refine wp_seq_k ?_
 intro K6 hK6
 refine wrt [.p 0, .p 1] ?_
 refine pm (pk 0 ?_);simp only [nf]
 refine plan_nil hH ?_
 clear hH
 intro w7 hH
 refine hK6 _ _ ?_
 (try clear hK6 K6)
 refine wp_block ?_
 refine wp_loopT [18] [8, 19, 20, 21, 22, 23, 24, 25, 26, 27, 28, 29, 30, 31, 32, 33, 34] (fun (n8 : Nat) (vs : List Value) (w' : World) => ∃ (i : Nat) (cs' : Array Value), vs = [I64 (i : Nat)] ∧ Hp [b] w w' [(some b, 5, cs')] ∧ n8 = n - i ∧ i ≤ n ∧ OwnC (some b) l.length cap 1 cs' ((hideL l ml p i).map V8)) (n - 0) (by kernel_rfl) ?_ ?_
 ·
  simp only [ga]
  refine ⟨0, cs3, rfl, ?_, rfl, ?_, ?_⟩
  ·
   exact hH
  · first | omega | (omega)
  · first | omega | (exact hO4)
 clear hH
 intro n8 vs9 w10 hR11 d0
 obtain ⟨i, cs', rfl, hH, hn12, hf13, hO'⟩ := hR11
 simp only [putAll, putD, List.set_cons_zero, List.set_cons_succ, Nat.zero_add, Nat.reduceAdd]
 have hhl := hideL_len l ml p i
 refine wp_seq_k ?_
 intro K14 hK14
 refine wrt [.p 0] ?_
 refine pp rfl rfl (pr_bin rfl rfl (by first | exact bin_lss_n  | exact bin_lss_i)) ?_;simp only [nf]
 refine plan_nil hH ?_
 clear hH
 intro w15 hH
 refine hK14 _ _ ?_
 (try clear hK14 K14)
 refine wp_seq_k ?_
 intro K16 hK16
 refine wp_cond_split rfl (fun hc17 => ?_) (fun hc17 => ?_)
 ·
  (try simp only [cnd] at hc17)
  refine wp_skip ?_
  refine hK16 _ _ ?_
  (try clear hK16 K16)
  refine wp_seq_k ?_
  intro K18 hK18
  refine wp_block ?_
  refine wp_seq_k ?_
  intro K19 hK19
  refine wrt [.p 0, .p 1] ?_
  refine pm (pa ?_);simp only [nf]
  refine plan_nil hH ?_
  clear hH
  intro w20 hH
  refine hK19 _ _ ?_
  (try clear hK19 K19)
  refine wrp [.p 0, .p 1, .p 2, .p 3, .p 4, .p 6, .p 7, .p 8, .p 9, .q 5, .q 10, .p 11, .p 12, .e 13] ?_
  refine pm (pm (pm ?_));simp only [nf]
  refine pp rfl rfl (pr_bin rfl rfl (by first | exact bin_add_n (by first | omega | ((try simp only [hideL_len]); omega)) | exact bin_add_i (by first | omega | ((try simp only [hideL_len]); omega)) (by first | omega | ((try simp only [hideL_len]); omega)))) ?_;simp only [nf]
  refine pp rfl rfl (pr_idx_Sl (OwnC.sl hH 0 rfl hO') rfl rfl Tryd.underlying22 sz5 (by first | omega | ((try simp only [hideL_len]); omega))) ?_;simp only [nf]
  refine pm (pm ?_);simp only [nf]
  refine pp rfl rfl (pr_bin rfl rfl (by first | exact bin_add_n (m := 1) (by first | omega | ((try simp only [hideL_len]); omega)) | exact bin_add_i (by first | omega | ((try simp only [hideL_len]); omega)) (by first | omega | ((try simp only [hideL_len]); omega)))) ?_;simp only [nf]
  refine pp rfl rfl (pr_idx_Sl (hm _ hH.chg) rfl rfl Tryd.underlying22 sz5 (by first | omega | ((try simp only [hideL_len]); omega))) ?_;simp only [nf]
  refine pq rfl rfl (qr_load1 rfl Tryd.underlying5 rfl (Sl.cell (OwnC.sl hH 0 rfl hO') (by first | omega | ((try simp only [hideL_len]); omega)))) ?_;simp only [nf]
  refine pq rfl rfl (qr_load1 rfl Tryd.underlying5 rfl (Sl.cell (hm _ hH.chg) (by first | omega | ((try simp only [hideL_len]); omega)))) ?_;simp only [nf]
  refine pp rfl rfl (pr_bin rfl rfl (bin_xor_u8 _ _)) ?_;simp only [nf]
  refine pp rfl rfl (pr_idx_Sl (OwnC.sl hH 0 rfl hO') rfl rfl Tryd.underlying22 sz5 (by first | omega | ((try simp only [hideL_len]); omega))) ?_;simp only [nf]
  refine plan_storeO 0 rfl rfl hH rfl rfl hO' rfl sz5 (by first | omega | ((try simp only [hideL_len]); omega)) ?_
  clear hH
  intro cs22 w21 hO23 hH
  (try simp only [nf, nh, Value.cells, arrB_set] at hH ⊢)
  refine plan_nil hH ?_
  clear hH
  intro w24 hH
  refine hK18 _ _ ?_
  (try clear hK18 K18)
  refine wrt [.p 0, .p 1] ?_
  refine pp rfl rfl (pr_bin rfl rfl (by first | exact bin_add_n (n := 1) (by first | omega | ((try simp only [hideL_len]); omega)) | exact bin_add_i (by first | omega | ((try simp only [hideL_len]); omega)) (by first | omega | ((try simp only [hideL_len]); omega)))) ?_;simp only [nf]
  refine pm ?_;simp only [nf]
  refine plan_nil hH ?_
  clear hH
  intro w25 hH
  (try simp only [Exit.then, Exit.inBlock, ↓reduceIte, Nat.reduceEqDiff])
  refine ⟨n - (i + 1), ?_, _, rfl, by kernel_rfl, ?_⟩
  · first | omega | (omega)
  simp only [ga]
  refine ⟨i + 1, cs22, rfl, ?_, rfl, ?_, ?_⟩
  ·
   exact hH
  · first | omega | (omega)
  · first | omega | (unfold hideL; exact hO23)
 ·
  (try simp only [cnd] at hc17)
  refine wp_exit ?_
  (try simp only [Exit.then, Exit.inBlock, ↓reduceIte, Nat.reduceEqDiff])
  refine BP.normal ?_
  refine BP.ret0 rfl rfl ?_
  obtain rfl : i = n := by omega
  exact ⟨rfl, hH.chg, _, hH.blk 0 rfl, hO'⟩
theorem mask_calls (a b c : ByteArray) (v : Value) (l : List UInt8) (p : Nat) (w : World) (hv : Sl w v l) (hc : c.size = 16) (hp : p + 20 ≤ l.length) (hl : l.length < 9223372036854775808) : Ret Tryd.prog 32 #[.agg #[.string a, .string b, .string c], v, I64 p] w fun v' w' => ∃ bm, v' = .slice (some ⟨bm, 0, none⟩) 16 16 ∧ Chg [] w w' ∧ w.heap.size ≤ bm ∧ Blk w' bm 87 (arr8 16 (maskF c.data.toList l p)) := by
 refine Ret.enter Tryd.func32 rfl ?_
 simp only [Tryd.ntmps32, fe, Nat.reduceAdd, Nat.reduceSub]
 have hH := Hp.start [] w
 refine wp_seq_k ?_
 intro K1 hK1
 refine wrt [.x 0, .p 1] ?_
 refine plan_box rfl rfl hH rfl ?_
 clear hH
 intro b2 w3 hH
 (try simp only [nf, nh, Value.cells, arrB_set] at hH ⊢)
 refine pa ?_;simp only [nf]
 refine plan_nil hH ?_
 clear hH
 intro w4 hH
 refine hK1 _ _ ?_
 (try clear hK1 K1)
 refine wp_seq_k ?_
 intro K5 hK5
 refine wrt [.p 0, .q 1, .x 2, .x 3, .p 4, .p 5, .p 6, .p 7, .p 8] ?_
 refine pp rfl rfl (pr_fieldAddr 2 rfl Tryd.underlying37 rfl rfl sz9) ?_;simp only [nf]
 refine pq rfl rfl (qr_load1 rfl Tryd.underlying9 rfl ((hH.blk 0 rfl).cell rfl)) ?_;simp only [nf]
 refine plan_s2b rfl rfl hH rfl Tryd.underlying9 Tryd.underlying22 Tryd.underlying5 ?_
 clear hH
 intro b6 cap7 cs8 w9 hO10 hH
 (try simp only [nf] at hH ⊢)
 (try simp only [nf, nh, Value.cells, arrB_set] at hH ⊢)
 refine plan_callx rfl rfl hH cf42 (fun w' hH => new_calls _ _ w' (OwnC.sl hH 1 rfl hO10) (by simpa using hc)) rfl (fun _ _ _ h => h.choose_spec.2.1) ?_
 clear hH
 intro w11 v12 w13 hH hp14
 obtain ⟨b15, rfl, hg, hfr, hbk⟩ := hp14
 replace hH := hH.callnew hg hbk hfr
 clear hg hfr hbk
 (try simp only [nf, nh, Value.cells, arrB_set] at hH ⊢)
 (try simp only [nf])
 refine pm ?_;simp only [nf]
 refine pp rfl rfl (pr_extract rfl rfl) ?_;simp only [nf]
 refine pp rfl rfl (pr_extract rfl rfl) ?_;simp only [nf]
 refine pa (pa ?_);simp only [nf]
 refine plan_nil hH ?_
 clear hH
 intro w16 hH
 refine hK5 _ _ ?_
 (try clear hK5 K5)
 refine wp_seq_k ?_
 intro K17 hK17
 refine wrt [.p 0, .p 1, .p 2, .p 3, .p 4, .p 5, .p 6, .p 7, .x 8, .p 9, .p 10, .p 11, .p 12, .p 13] ?_
 refine pm (pm (pm ?_));simp only [nf]
 refine pp rfl rfl (pr_bin rfl rfl (by first | exact bin_add_n (n := 4) (by omega) | exact bin_add_i (by omega) (by omega))) ?_;simp only [nf]
 refine pm ?_;simp only [nf]
 refine pp rfl rfl (pr_bin rfl rfl (by first | exact bin_add_n (n := 4) (by omega) | exact bin_add_i (by omega) (by omega))) ?_;simp only [nf]
 refine pp rfl rfl (pr_bin rfl rfl (by first | exact bin_add_n (n := 16) (by omega) | exact bin_add_i (by omega) (by omega))) ?_;simp only [nf]
 refine pp rfl rfl (pr_slice_Sl_lh (hv.chg hH.chg) rfl rfl rfl Tryd.underlying22 sz5 (by omega) (by omega)) ?_;simp only [nf]
 refine plan_callx rfl rfl hH cf43 (fun w' hH => block_calls _ _ _ _ w' (hH.blk 2 rfl) (Sl.cut (hv.chg hH.chg) (by omega) (by omega)) (by simpa [sampL] using sampL_len l p hp)) rfl (fun _ _ _ h => h.choose_spec.2.1) ?_
 clear hH
 intro w18 v19 w20 hH hp21
 obtain ⟨b22, rfl, hg, hfr, hbk⟩ := hp21
 replace hH := hH.callnew hg hbk hfr
 clear hg hfr hbk
 (try simp only [nf, nh, Value.cells, arrB_set] at hH ⊢)
 (try simp only [nf])
 refine pm ?_;simp only [nf]
 refine pp rfl rfl (pr_extract rfl rfl) ?_;simp only [nf]
 refine pp rfl rfl (pr_extract rfl rfl) ?_;simp only [nf]
 refine pa (pa ?_);simp only [nf]
 refine plan_nil hH ?_
 clear hH
 intro w23 hH
 simp only [Nat.add_sub_cancel_left] at hH
 refine hK17 _ _ ?_
 (try clear hK17 K17)
 refine wp_seq_k ?_
 intro K24 hK24
 refine wp_seq_k ?_
 intro K25 hK25
 refine wrt [.p 0, .p 1, .q 2, .p 3, .p 4] ?_
 refine pm ?_;simp only [nf]
 refine pp rfl rfl (pr_idx_Sl (i := 0) (hv.chg hH.chg) rfl rfl Tryd.underlying22 sz5 (by omega)) ?_;simp only [nf]
 refine pq rfl rfl (qr_load1 rfl Tryd.underlying5 rfl (Sl.cell (i := 0) (hv.chg hH.chg) (by omega))) ?_;simp only [nf]
 refine pp rfl rfl (pr_bin rfl rfl (bin_and_u8 _ 128)) ?_;simp only [nf]
 refine pp rfl rfl (pr_bin rfl rfl (bin_neq_u8 _ 0)) ?_;simp only [nf]
 refine plan_nil hH ?_
 clear hH
 intro w26 hH
 refine hK25 _ _ ?_
 (try clear hK25 K25)
 refine wp_cond_split rfl (fun hc27 => ?_) (fun hc27 => ?_)
 ·
  (try simp only [cnd] at hc27)
  have hq := hc27
  refine wrt [.p 0, .p 1, .q 2, .p 3, .p 4, .e 5] ?_
  refine pm ?_;simp only [nf]
  refine pp rfl rfl (pr_idxS1 (i := 0) rfl rfl Tryd.underlying22 sz5 (by omega)) ?_;simp only [nf]
  refine pq rfl rfl (qr_load1 rfl Tryd.underlying5 rfl ((hH.blk 3 rfl).cell (arr8_get (by omega)))) ?_;simp only [nf]
  refine pp rfl rfl (pr_bin rfl rfl (bin_and_u8 _ 15)) ?_;simp only [nf]
  refine pp rfl rfl (pr_idxS1 (i := 0) rfl rfl Tryd.underlying22 sz5 (by omega)) ?_;simp only [nf]
  refine plan_store1 3 rfl rfl hH rfl rfl rfl rfl sz5 (by simp <;> omega) ?_
  clear hH
  intro w28 hH
  (try simp only [nf, nh, Value.cells, arrB_set] at hH ⊢)
  refine plan_nil hH ?_
  clear hH
  intro w29 hH
  refine hK24 _ _ ?_
  (try clear hK24 K24)
  refine wp_seq_k ?_
  intro K30 hK30
  refine wrt [.p 0, .p 1] ?_
  refine pm (pa ?_);simp only [nf]
  refine plan_nil hH ?_
  clear hH
  intro w31 hH
  refine hK30 _ _ ?_
  (try clear hK30 K30)
  refine wp_ret ?_
  (try simp only [Exit.then, Exit.inBlock, ↓reduceIte, Nat.reduceEqDiff])
  refine BP.ret1 rfl rfl ?_
  exact ⟨_, rfl, hH.chg, (hH.mine 3 rfl).resolve_right (by simp), (hH.say 3 rfl (arr8_congr fun i _ => by unfold maskF; rw [if_pos (bne_iff_ne.2 hq)]; rfl)).blk 3 rfl⟩
 ·
  (try simp only [cnd] at hc27)
  have hq := hc27
  refine wrt [.p 0, .p 1, .q 2, .p 3, .p 4, .e 5] ?_
  refine pm ?_;simp only [nf]
  refine pp rfl rfl (pr_idxS1 (i := 0) rfl rfl Tryd.underlying22 sz5 (by omega)) ?_;simp only [nf]
  refine pq rfl rfl (qr_load1 rfl Tryd.underlying5 rfl ((hH.blk 3 rfl).cell (arr8_get (by omega)))) ?_;simp only [nf]
  refine pp rfl rfl (pr_bin rfl rfl (bin_and_u8 _ 31)) ?_;simp only [nf]
  refine pp rfl rfl (pr_idxS1 (i := 0) rfl rfl Tryd.underlying22 sz5 (by omega)) ?_;simp only [nf]
  refine plan_store1 3 rfl rfl hH rfl rfl rfl rfl sz5 (by simp <;> omega) ?_
  clear hH
  intro w32 hH
  (try simp only [nf, nh, Value.cells, arrB_set] at hH ⊢)
  refine plan_nil hH ?_
  clear hH
  intro w33 hH
  refine hK24 _ _ ?_
  (try clear hK24 K24)
  refine wp_seq_k ?_
  intro K34 hK34
  refine wrt [.p 0, .p 1] ?_
  refine pm (pa ?_);simp only [nf]
  refine plan_nil hH ?_
  clear hH
  intro w35 hH
  refine hK34 _ _ ?_
  (try clear hK34 K34)
  refine wp_ret ?_
  (try simp only [Exit.then, Exit.inBlock, ↓reduceIte, Nat.reduceEqDiff])
  refine BP.ret1 rfl rfl ?_
  exact ⟨_, rfl, hH.chg, (hH.mine 3 rfl).resolve_right (by simp), (hH.say 3 rfl (arr8_congr fun i _ => by unfold maskF; rw [if_neg (fun e => bne_iff_ne.1 e hq)]; rfl)).blk 3 rfl⟩
theorem u8_all (P : UInt8 → Bool) (h : ((List.range 256).all fun i => P (UInt8.ofNat i)) = true) (x : UInt8) : P x = true := by
  have := List.all_eq_true.1 h x.toNat (List.mem_range.2 x.toNat_lt)
  rwa [UInt8.ofNat_toNat] at this
theorem mask_head (K l : List UInt8) (p : Nat) : (maskL K l p).getD 0 0 = if l.getD 0 0 &&& 128 != 0 then maskR K l p 0 &&& 15 else maskR K l p 0 &&& 31 := by
  unfold maskL
  rw [cut16 _ (by decide)]
  unfold maskF; rw [upd_same]
end Go.Proofs.YtmoaddicejohgaaDoor
set_option linter.unusedSimpArgs false
set_option linter.unusedVariables false
set_option maxRecDepth 100000
set_option maxHeartbeats 4000000
namespace Go.Proofs.YtmoaddicejohgaaDoor
open Go
open List (getD_cons_zero getD_cons_succ set_cons_zero set_cons_succ)
def keyF16 (a : ByteArray) : Nat → UInt8 := kexp fun i => a.data.toList.getD i 0
def sealBody (a b : ByteArray) (hl : List UInt8) (n : Nat) (cl : List UInt8) : List UInt8 := hl ++ sealedL (keyF16 a) (hP (keyF16 a)) (nonL b.data.toList n 8) hl cl
def sealOut (a b c : ByteArray) (hl : List UInt8) (sz n : Nat) (cl : List UInt8) : List UInt8 :=
  hideL (sealBody a b hl n cl) (maskL c.data.toList (sealBody a b hl n cl) (hl.length - sz)) (hl.length - sz) sz
def sealE (a b c : ByteArray) (hl : List UInt8) (size number : Int) (cn : Nat) : Nat :=
  if 1 ≤ size ∧ size ≤ 4 ∧ 0 ≤ number ∧ number ≤ 4611686018427387903 ∧ rightB a b c = true ∧ size + 1 ≤ hl.length then
    if (hl.getD 0 0).toNat % 4 = size.toNat - 1 ∧ lowN (hl.drop (hl.length - size.toNat)) size.toNat = number.toNat % 2 ^ (8 * size.toNat) then
      if cn + size.toNat < 4 then 3 else if 65000 < cn then 5 else 0
    else 2
  else 1
theorem rightB_is {a b c : ByteArray} (h : rightB a b c = true) : a.size = 16 ∧ b.size = 12 ∧ c.size = 16 := by
  unfold rightB at h
  simpa using h
theorem u8_and3 (x : UInt8) : (x &&& 3).toNat = x.toNat % 4 := eq_of_beq (u8_all (fun x => (x &&& 3).toNat == x.toNat % 4) (by decide) x)
theorem lowN_succ (l : List UInt8) (n : Nat) : lowN l (n + 1) = lowN l n * 256 + (l.getD n 0).toNat := by
  show lowN l n * 2 ^ 8 ||| _ = _
  rw [Nat.mul_comm, ← Nat.two_pow_add_eq_or_of_lt (lt_u8 _), Nat.mul_comm]
theorem sealBody_len (a b : ByteArray) (hl : List UInt8) (n : Nat) (cl : List UInt8) : (sealBody a b hl n cl).length = hl.length + (cl.length + 16) := by
  unfold sealBody; rw [List.length_append, sealedL_len]
theorem sealOut_len (a b c : ByteArray) (hl : List UInt8) (sz n : Nat) (cl : List UInt8) : (sealOut a b c hl sz n cl).length = hl.length + (cl.length + 16) := by
  unfold sealOut; rw [hideL_len, sealBody_len]
theorem gseal_calls (a b c : ByteArray) (hv cv : Value) (hl cl : List UInt8) (size number : Int) (w : World) (hh : Sl w hv hl) (hcl : Sl w cv cl) (hl1 : hl.length ≤ 100000) (hl2 : cl.length ≤ 100000) (hs1 : -9223372036854775808 ≤ size) (hs2 : size ≤ 9223372036854775807) : Ret Tryd.prog 13 #[.agg #[.string a, .string b, .string c], hv, I64 size, I64 number, cv] w fun v w' => (sealE a b c hl size number cl.length = 0 → ∃ o cap cs, v = .tuple #[own o (hl.length + (cl.length + 16)) cap, I64 (0 : Nat)] ∧ Chg [] w w' ∧ OwnC o (hl.length + (cl.length + 16)) cap 1 cs ((sealOut a b c hl size.toNat number.toNat cl).map V8) ∧ ∀ b, o = some b → w.heap.size ≤ b ∧ Blk w' b 5 cs) ∧ ∀ e, sealE a b c hl size number cl.length = e → e ≠ 0 → v = .tuple #[.slice none 0 0, I64 (e : Nat)] ∧ Chg [] w w' := by
 refine Ret.enter Tryd.func13 rfl ?_
 simp only [Tryd.ntmps13, fe, Nat.reduceAdd, Nat.reduceSub]
 have hH := Hp.start [] w
 refine wp_seq_k ?_
 intro K1 hK1
 refine wrt [.x 0, .p 1, .p 2] ?_
 refine plan_box rfl rfl hH rfl ?_
 clear hH
 intro b2 w3 hH
 (try simp only [nf, nh, Value.cells, arrB_set] at hH ⊢)
 refine pa (pka 0 ?_);simp only [nf]
 refine plan_nil hH ?_
 clear hH
 intro w4 hH
 refine hK1 _ _ ?_
 (try clear hK1 K1)
 refine wp_seq_k ?_
 intro K5 hK5
 refine wp_seq_k ?_
 intro K6 hK6
 refine wrt [.p 0, .p 1, .p 2, .p 3, .p 4, .p 5, .p 6, .p 7, .p 8, .p 9, .p 10, .p 11, .p 12, .p 13, .p 14, .q 15, .q 16, .p 17, .p 18, .p 19, .p 20, .p 21, .p 22, .p 23, .p 24, .p 25] ?_
 refine pm ?_;simp only [nf]
 refine pp rfl rfl (pr_bin rfl rfl (by first | exact bin_lss_n (n := 1)  | exact bin_lss_i)) ?_;simp only [nf]
 refine pm ?_;simp only [nf]
 refine plan_pc_f rfl rfl rfl (fun hb => by have hb' := hb; try simp only [gsl] at hb'; rw [hb]; exact pr_move) ?_
 (try simp only [nf])
 refine plan_pc_f rfl rfl rfl (fun hb => by have hb' := hb; try simp only [gsl] at hb'; rw [hb]; exact (pr_bin rfl rfl (by first | exact bin_gtr_n (n := 4)  | exact bin_gtr_i))) ?_
 (try simp only [nf])
 refine pp rfl rfl (pr_pick_or rfl rfl rfl) ?_;simp only [nf]
 refine pm ?_;simp only [nf]
 refine plan_pc_f rfl rfl rfl (fun hb => by have hb' := hb; try simp only [gsl] at hb'; rw [hb]; exact pr_move) ?_
 (try simp only [nf])
 refine plan_pc_f rfl rfl rfl (fun hb => by have hb' := hb; try simp only [gsl] at hb'; rw [hb]; exact (pr_bin rfl rfl (by first | exact bin_lss_n (n := 0)  | exact bin_lss_i))) ?_
 (try simp only [nf])
 refine pp rfl rfl (pr_pick_or rfl rfl rfl) ?_;simp only [nf]
 refine pm ?_;simp only [nf]
 refine plan_pc_f rfl rfl rfl (fun hb => by have hb' := hb; try simp only [gsl] at hb'; rw [hb]; exact pr_move) ?_
 (try simp only [nf])
 refine plan_pc_f rfl rfl rfl (fun hb => by have hb' := hb; try simp only [gsl] at hb'; rw [hb]; exact (pr_bin rfl rfl (by first | exact bin_gtr_n (n := 4611686018427387903)  | exact bin_gtr_i))) ?_
 (try simp only [nf])
 refine pp rfl rfl (pr_pick_or rfl rfl rfl) ?_;simp only [nf]
 refine pm ?_;simp only [nf]
 refine plan_qc_f rfl rfl rfl (fun hb => by have hb' := hb; try simp only [gsl] at hb'; rw [hb]; exact (qr_loadW rfl (hH.blk 0 rfl) Tryd.underlying37 rfl sz37 (by simp))) ?_
 (try simp only [nf])
 refine plan_qc_f rfl rfl rfl (fun hb => by have hb' := hb; try simp only [gsl] at hb'; rw [hb]; exact (qr_call cf27 (fun w' hw => right_calls _ _ _ w') rfl)) ?_
 (try simp only [nf])
 refine plan_pc_f rfl rfl rfl (fun hb => by have hb' := hb; try simp only [gsl] at hb'; rw [hb]; exact (pr_not rfl)) ?_
 (try simp only [nf])
 refine pp rfl rfl (pr_pick_or rfl rfl rfl) ?_;simp only [nf]
 refine pm ?_;simp only [nf]
 refine plan_pc_f rfl rfl rfl (fun hb => by have hb' := hb; try simp only [gsl] at hb'; rw [hb]; exact pr_move) ?_
 (try simp only [nf])
 refine plan_pc_f rfl rfl rfl (fun hb => by have hb' := hb; try simp only [gsl] at hb'; rw [hb]; exact (pr_len_Sl (hh.chg hH.chg) rfl Tryd.underlying22)) ?_
 (try simp only [nf])
 refine plan_pc_f rfl rfl rfl (fun hb => by have hb' := hb; try simp only [gsl] at hb'; rw [hb]; exact pr_move) ?_
 (try simp only [nf])
 refine plan_pc_f rfl rfl rfl (fun hb => by have hb' := hb; try simp only [gsl] at hb'; rw [hb]; exact (pr_bin rfl rfl (by first | exact bin_add_n (n := 1) (by first | omega | (first | (simp only [List.length_drop, List.length_append, sealedL_len] at *; omega) | (have := lt_u8 (hl.getD 0 0 &&& 3); omega))) | exact bin_add_i (by first | omega | (first | (simp only [List.length_drop, List.length_append, sealedL_len] at *; omega) | (have := lt_u8 (hl.getD 0 0 &&& 3); omega))) (by first | omega | (first | (simp only [List.length_drop, List.length_append, sealedL_len] at *; omega) | (have := lt_u8 (hl.getD 0 0 &&& 3); omega)))))) ?_
 (try simp only [nf])
 refine plan_pc_f rfl rfl rfl (fun hb => by have hb' := hb; try simp only [gsl] at hb'; rw [hb]; exact (pr_bin rfl rfl (by first | exact bin_lss_n  | exact bin_lss_i))) ?_
 (try simp only [nf])
 refine pp rfl rfl (pr_pick_or rfl rfl rfl) ?_;simp only [nf]
 refine plan_nil hH ?_
 clear hH
 intro w7 hH
 refine hK6 _ _ ?_
 (try clear hK6 K6)
 refine wp_cond_split rfl (fun hc8 => ?_) (fun hc8 => ?_)
 ·
  (try simp only [cnd, gsl] at hc8)
  have hq := hc8
  refine wp_seq_k ?_
  intro K9 hK9
  refine wrt [.p 0, .p 1] ?_
  refine pa (pka 1 ?_);simp only [nf]
  refine plan_nil hH ?_
  clear hH
  intro w10 hH
  refine hK9 _ _ ?_
  (try clear hK9 K9)
  refine wp_ret ?_
  (try simp only [Exit.then, Exit.inBlock, ↓reduceIte, Nat.reduceEqDiff])
  refine BP.ret2 rfl rfl rfl ?_
  have he : sealE a b c hl size number cl.length = 1 := by
    unfold sealE
    rw [if_neg (fun h => by obtain ⟨h1, h2, h3, h4, h5, h6⟩ := h; rcases hq with ((((hq | hq) | hq) | hq) | hq) | hq <;> first | omega | (rw [h5] at hq; cases hq))]
  exact ⟨fun h => by (rw [he] at h; cases h), fun e h1 _ => by (rw [he] at h1; subst h1; exact ⟨rfl, hH.chg⟩)⟩
 ·
  (try simp only [cnd, gsl] at hc8)
  have hq := hc8
  have hok : 1 ≤ size ∧ size ≤ 4 ∧ 0 ≤ number ∧ number ≤ 4611686018427387903 ∧ rightB a b c = true ∧ size + 1 ≤ hl.length := ⟨by omega, by omega, by omega, by omega, hq.1.2, by first | omega | (rw [str_len]; omega)⟩
  obtain ⟨ha, hb, hc⟩ := rightB_is hok.2.2.2.2.1
  obtain ⟨sz, rfl⟩ : ∃ k : Nat, size = k := ⟨size.toNat, by omega⟩
  obtain ⟨nu, rfl⟩ : ∃ k : Nat, number = k := ⟨number.toNat, by omega⟩
  have hm : ((sz : Nat) : Int).toNat = sz := by omega
  have hnm : ((nu : Nat) : Int).toNat = nu := by omega
  obtain ⟨hw1, hw2, hw3⟩ := pow_size sz (by omega) (by omega)
  have hsz1 : 1 ≤ sz := by omega
  have hsz4 : sz ≤ 4 := by omega
  refine wp_skip ?_
  refine hK5 _ _ ?_
  (try clear hK5 K5)
  refine wp_seq_k ?_
  intro K11 hK11
  refine wp_seq_k ?_
  intro K12 hK12
  refine wrp [.p 0, .p 1, .p 5, .p 6, .q 2, .p 3, .p 4, .p 7, .p 8, .p 9, .p 10, .p 11, .p 12, .p 13, .p 14, .p 16, .p 17, .p 18, .p 19, .p 20, .p 21, .q 15, .p 22, .p 23] ?_
  refine pm ?_;simp only [nf]
  refine pp rfl rfl (pr_idx_Sl (i := 0) (hh.chg hH.chg) rfl rfl Tryd.underlying22 sz5 (by first | omega | (first | (simp only [List.length_drop, List.length_append, sealedL_len] at *; omega) | (have := lt_u8 (hl.getD 0 0 &&& 3); omega)))) ?_;simp only [nf]
  refine pm ?_;simp only [nf]
  refine pp rfl rfl (pr_bin rfl rfl (by first | exact bin_sub_n (n := 1) (by first | omega | (first | (simp only [List.length_drop, List.length_append, sealedL_len] at *; omega) | (have := lt_u8 (hl.getD 0 0 &&& 3); omega))) (by first | omega | (first | (simp only [List.length_drop, List.length_append, sealedL_len] at *; omega) | (have := lt_u8 (hl.getD 0 0 &&& 3); omega))) | exact bin_sub_i (by first | omega | (first | (simp only [List.length_drop, List.length_append, sealedL_len] at *; omega) | (have := lt_u8 (hl.getD 0 0 &&& 3); omega))) (by first | omega | (first | (simp only [List.length_drop, List.length_append, sealedL_len] at *; omega) | (have := lt_u8 (hl.getD 0 0 &&& 3); omega))))) ?_;simp only [nf]
  refine pq rfl rfl (qr_load1 rfl Tryd.underlying5 rfl (Sl.cell (i := 0) (hh.chg hH.chg) (by first | omega | (first | (simp only [List.length_drop, List.length_append, sealedL_len] at *; omega) | (have := lt_u8 (hl.getD 0 0 &&& 3); omega))))) ?_;simp only [nf]
  refine pp rfl rfl (pr_bin rfl rfl (bin_and_u8 _ 3)) ?_;simp only [nf]
  refine pp rfl rfl (pr_conv rfl (cnv_u8_n _ Tryd.underlying5 Tryd.underlying3)) ?_;simp only [nf]
  refine pp rfl rfl (pr_bin rfl rfl (by first | exact bin_neq_n  | exact bin_neq_i)) ?_;simp only [nf]
  refine pm ?_;simp only [nf]
  refine plan_pc_f rfl rfl rfl (fun hb => by have hb' := hb; try simp only [gsl] at hb'; rw [hb]; exact pr_move) ?_
  (try simp only [nf])
  refine plan_pc_f rfl rfl rfl (fun hb => by have hb' := hb; try simp only [gsl] at hb'; rw [hb]; exact pr_move) ?_
  (try simp only [nf])
  refine plan_pc_f rfl rfl rfl (fun hb => by have hb' := hb; try simp only [gsl] at hb'; rw [hb]; exact (pr_len_Sl (hh.chg hH.chg) rfl Tryd.underlying22)) ?_
  (try simp only [nf])
  refine plan_pc_f rfl rfl rfl (fun hb => by have hb' := hb; try simp only [gsl] at hb'; rw [hb]; exact pr_move) ?_
  (try simp only [nf])
  refine plan_pc_f rfl rfl rfl (fun hb => by have hb' := hb; try simp only [gsl] at hb'; rw [hb]; exact (pr_bin rfl rfl (by first | exact bin_sub_n (by first | omega | (first | (simp only [List.length_drop, List.length_append, sealedL_len] at *; omega) | (have := lt_u8 (hl.getD 0 0 &&& 3); omega))) (by first | omega | (first | (simp only [List.length_drop, List.length_append, sealedL_len] at *; omega) | (have := lt_u8 (hl.getD 0 0 &&& 3); omega))) | exact bin_sub_i (by first | omega | (first | (simp only [List.length_drop, List.length_append, sealedL_len] at *; omega) | (have := lt_u8 (hl.getD 0 0 &&& 3); omega))) (by first | omega | (first | (simp only [List.length_drop, List.length_append, sealedL_len] at *; omega) | (have := lt_u8 (hl.getD 0 0 &&& 3); omega)))))) ?_
  (try simp only [nf])
  refine plan_pc_f rfl rfl rfl (fun hb => by have hb' := hb; try simp only [gsl] at hb'; rw [hb]; exact (pr_slice_Sl_l (hh.chg hH.chg) rfl rfl Tryd.underlying22 sz5 (by first | omega | (first | (simp only [List.length_drop, List.length_append, sealedL_len] at *; omega) | (have := lt_u8 (hl.getD 0 0 &&& 3); omega))))) ?_
  (try simp only [nf])
  refine plan_pc_f rfl rfl rfl (fun hb => by have hb' := hb; try simp only [gsl] at hb'; rw [hb]; exact pr_move) ?_
  (try simp only [nf])
  refine plan_pc_f rfl rfl rfl (fun hb => by have hb' := hb; try simp only [gsl] at hb'; rw [hb]; exact pr_move) ?_
  (try simp only [nf])
  refine plan_pc_f rfl rfl rfl (fun hb => by have hb' := hb; try simp only [gsl] at hb'; rw [hb]; exact (pr_bin rfl rfl (by first | exact bin_mul_n (m := 8) (by first | omega | (first | (simp only [List.length_drop, List.length_append, sealedL_len] at *; omega) | (have := lt_u8 (hl.getD 0 0 &&& 3); omega))) | exact bin_mul_i (by first | omega | (first | (simp only [List.length_drop, List.length_append, sealedL_len] at *; omega) | (have := lt_u8 (hl.getD 0 0 &&& 3); omega))) (by first | omega | (first | (simp only [List.length_drop, List.length_append, sealedL_len] at *; omega) | (have := lt_u8 (hl.getD 0 0 &&& 3); omega)))))) ?_
  (try simp only [nf])
  refine plan_pc_f rfl rfl rfl (fun hb => by have hb' := hb; try simp only [gsl] at hb'; rw [hb]; exact (pr_bin rfl rfl (bin_shl_n (m := 1) (by first | omega | (first | (simp only [List.length_drop, List.length_append, sealedL_len] at *; omega) | (have := lt_u8 (hl.getD 0 0 &&& 3); omega))) (by first | omega | (first | (simp only [List.length_drop, List.length_append, sealedL_len] at *; omega) | (have := lt_u8 (hl.getD 0 0 &&& 3); omega)))))) ?_
  (try simp only [nf])
  refine plan_pc_f rfl rfl rfl (fun hb => by have hb' := hb; try simp only [gsl] at hb'; rw [hb]; exact (pr_bin rfl rfl (by first | exact bin_sub_n (n := 1) (by first | omega | (first | (simp only [List.length_drop, List.length_append, sealedL_len] at *; omega) | (have := lt_u8 (hl.getD 0 0 &&& 3); omega))) (by first | omega | (first | (simp only [List.length_drop, List.length_append, sealedL_len] at *; omega) | (have := lt_u8 (hl.getD 0 0 &&& 3); omega))) | exact bin_sub_i (by first | omega | (first | (simp only [List.length_drop, List.length_append, sealedL_len] at *; omega) | (have := lt_u8 (hl.getD 0 0 &&& 3); omega))) (by first | omega | (first | (simp only [List.length_drop, List.length_append, sealedL_len] at *; omega) | (have := lt_u8 (hl.getD 0 0 &&& 3); omega)))))) ?_
  (try simp only [nf])
  refine plan_pc_f rfl rfl rfl (fun hb => by have hb' := hb; try simp only [gsl] at hb'; rw [hb]; exact (pr_bin rfl rfl (by first | exact bin_and_n (by first | omega | (first | (simp only [List.length_drop, List.length_append, sealedL_len] at *; omega) | (have := lt_u8 (hl.getD 0 0 &&& 3); omega))) (by first | omega | (first | (simp only [List.length_drop, List.length_append, sealedL_len] at *; omega) | (have := lt_u8 (hl.getD 0 0 &&& 3); omega)))))) ?_
  (try simp only [nf])
  refine plan_qc_f rfl rfl rfl (fun hb => by have hb' := hb; try simp only [gsl] at hb'; rw [hb]; exact (qr_call cf28 (fun w' hw => low_calls _ _ w' ((Sl.cutl (hh.chg hH.chg) (by first | omega | (first | (simp only [List.length_drop, List.length_append, sealedL_len] at *; omega) | (have := lt_u8 (hl.getD 0 0 &&& 3); omega)))).chg hw) (by rw [List.length_drop]; omega)) rfl)) ?_
  (try simp only [nf])
  refine plan_pc_f rfl rfl rfl (fun hb => by have hb' := hb; try simp only [gsl] at hb'; rw [hb]; exact (pr_bin rfl rfl (by first | exact bin_neq_n  | exact bin_neq_i))) ?_
  (try simp only [nf])
  refine pp rfl rfl (pr_pick_or rfl rfl rfl) ?_;simp only [nf]
  refine plan_nil hH ?_
  clear hH
  intro w13 hH
  refine hK12 _ _ ?_
  (try clear hK12 K12)
  refine wp_cond_split rfl (fun hc14 => ?_) (fun hc14 => ?_)
  ·
   (try simp only [cnd, gsl] at hc14)
   have hf := hc14
   refine wp_seq_k ?_
   intro K15 hK15
   refine wrt [.p 0, .p 1] ?_
   refine pa (pka 2 ?_);simp only [nf]
   refine plan_nil hH ?_
   clear hH
   intro w16 hH
   refine hK15 _ _ ?_
   (try clear hK15 K15)
   refine wp_ret ?_
   (try simp only [Exit.then, Exit.inBlock, ↓reduceIte, Nat.reduceEqDiff])
   refine BP.ret2 rfl rfl rfl ?_
   have he : sealE a b c hl (sz : Nat) (nu : Nat) cl.length = 2 := by
     unfold sealE
     rw [if_pos hok, hm, hnm, if_neg (fun h => by (obtain ⟨h1, h2⟩ := h; rw [u8_and3, Nat.one_mul, Nat.and_two_pow_sub_one_eq_mod, List.length_drop] at hf; rw [show hl.length - (hl.length - sz) = sz by omega] at hf; rcases hf with hf | hf <;> first | exact hf h1 | exact hf h2))]
   exact ⟨fun h => by (rw [he] at h; cases h), fun e h1 _ => by (rw [he] at h1; subst h1; exact ⟨rfl, hH.chg⟩)⟩
  ·
   (try simp only [cnd, gsl] at hc14)
   have hf := hc14
   refine wp_skip ?_
   refine hK11 _ _ ?_
   (try clear hK11 K11)
   refine wp_seq_k ?_
   intro K17 hK17
   refine wp_block ?_
   refine wp_seq_k ?_
   intro K18 hK18
   refine wrt [.p 0, .p 1, .p 2, .p 3, .p 4, .p 5] ?_
   refine pm ?_;simp only [nf]
   refine pp rfl rfl (pr_len_Sl (hcl.chg hH.chg) rfl Tryd.underlying22) ?_;simp only [nf]
   refine pm ?_;simp only [nf]
   refine pp rfl rfl (pr_bin rfl rfl (by first | exact bin_sub_n (m := 4) (by first | omega | (first | (simp only [List.length_drop, List.length_append, sealedL_len] at *; omega) | (have := lt_u8 (hl.getD 0 0 &&& 3); omega))) (by first | omega | (first | (simp only [List.length_drop, List.length_append, sealedL_len] at *; omega) | (have := lt_u8 (hl.getD 0 0 &&& 3); omega))) | exact bin_sub_i (by first | omega | (first | (simp only [List.length_drop, List.length_append, sealedL_len] at *; omega) | (have := lt_u8 (hl.getD 0 0 &&& 3); omega))) (by first | omega | (first | (simp only [List.length_drop, List.length_append, sealedL_len] at *; omega) | (have := lt_u8 (hl.getD 0 0 &&& 3); omega))))) ?_;simp only [nf]
   refine pp rfl rfl (pr_bin rfl rfl (by first | exact bin_lss_n  | exact bin_lss_i)) ?_;simp only [nf]
   refine pa ?_;simp only [nf]
   refine plan_nil hH ?_
   clear hH
   intro w19 hH
   refine hK18 _ _ ?_
   (try clear hK18 K18)
   refine wp_cond_split rfl (fun hc20 => ?_) (fun hc20 => ?_)
   ·
    (try simp only [cnd, gsl] at hc20)
    have ht := hc20
    refine wp_seq_k ?_
    intro K21 hK21
    refine wrt [.p 0, .p 1] ?_
    refine pa (pka 3 ?_);simp only [nf]
    refine plan_nil hH ?_
    clear hH
    intro w22 hH
    refine hK21 _ _ ?_
    (try clear hK21 K21)
    refine wp_ret ?_
    (try simp only [Exit.then, Exit.inBlock, ↓reduceIte, Nat.reduceEqDiff])
    refine BP.ret2 rfl rfl rfl ?_
    have hform : (hl.getD 0 0).toNat % 4 = sz - 1 ∧ lowN (hl.drop (hl.length - sz)) sz = nu % 2 ^ (8 * sz) := by
      rw [u8_and3, Nat.one_mul, Nat.and_two_pow_sub_one_eq_mod, List.length_drop] at hf
      rw [show hl.length - (hl.length - sz) = sz by omega] at hf
      exact hf
    have he : sealE a b c hl (sz : Nat) (nu : Nat) cl.length = 3 := by
      unfold sealE
      rw [if_pos hok, hm, hnm, if_pos hform, if_pos (by omega)]
    exact ⟨fun h => by (rw [he] at h; cases h), fun e h1 _ => by (rw [he] at h1; subst h1; exact ⟨rfl, hH.chg⟩)⟩
   ·
    (try simp only [cnd, gsl] at hc20)
    have ht := hc20
    refine wp_seq_k ?_
    intro K23 hK23
    refine wrt [.p 0, .p 1, .p 2, .p 3] ?_
    refine pm ?_;simp only [nf]
    refine pp rfl rfl (pr_len_Sl (hcl.chg hH.chg) rfl Tryd.underlying22) ?_;simp only [nf]
    refine pp rfl rfl (pr_bin rfl rfl (by first | exact bin_gtr_n (n := 65000)  | exact bin_gtr_i)) ?_;simp only [nf]
    refine pa ?_;simp only [nf]
    refine plan_nil hH ?_
    clear hH
    intro w24 hH
    refine hK23 _ _ ?_
    (try clear hK23 K23)
    refine wp_cond_split rfl (fun hc25 => ?_) (fun hc25 => ?_)
    ·
     (try simp only [cnd, gsl] at hc25)
     have hbg := hc25
     refine wp_seq_k ?_
     intro K26 hK26
     refine wrt [.p 0, .p 1] ?_
     refine pa (pka 5 ?_);simp only [nf]
     refine plan_nil hH ?_
     clear hH
     intro w27 hH
     refine hK26 _ _ ?_
     (try clear hK26 K26)
     refine wp_ret ?_
     (try simp only [Exit.then, Exit.inBlock, ↓reduceIte, Nat.reduceEqDiff])
     refine BP.ret2 rfl rfl rfl ?_
     have hform : (hl.getD 0 0).toNat % 4 = sz - 1 ∧ lowN (hl.drop (hl.length - sz)) sz = nu % 2 ^ (8 * sz) := by
       rw [u8_and3, Nat.one_mul, Nat.and_two_pow_sub_one_eq_mod, List.length_drop] at hf
       rw [show hl.length - (hl.length - sz) = sz by omega] at hf
       exact hf
     have he : sealE a b c hl (sz : Nat) (nu : Nat) cl.length = 5 := by
       unfold sealE
       rw [if_pos hok, hm, hnm, if_pos hform, if_neg (by omega), if_pos (by omega)]
     exact ⟨fun h => by (rw [he] at h; cases h), fun e h1 _ => by (rw [he] at h1; subst h1; exact ⟨rfl, hH.chg⟩)⟩
    ·
     (try simp only [cnd, gsl] at hc25)
     have hbg := hc25
     refine wp_skip ?_
     refine hK17 _ _ ?_
     (try clear hK17 K17)
     refine wp_seq_k ?_
     intro K28 hK28
     refine wrt [.p 0, .q 1, .x 2, .x 3, .p 4, .p 5, .p 6, .p 7, .p 8] ?_
     refine pp rfl rfl (pr_fieldAddr 0 rfl Tryd.underlying37 rfl rfl sz9) ?_;simp only [nf]
     refine pq rfl rfl (qr_load1 rfl Tryd.underlying9 rfl ((hH.blk 0 rfl).cell rfl)) ?_;simp only [nf]
     refine plan_s2b rfl rfl hH rfl Tryd.underlying9 Tryd.underlying22 Tryd.underlying5 ?_
     clear hH
     intro b29 cap30 cs31 w32 hO33 hH
     (try simp only [nf] at hH ⊢)
     (try simp only [nf, nh, Value.cells, arrB_set] at hH ⊢)
     refine plan_callx rfl rfl hH cf22 (fun w' hH => gnew_calls _ _ w' (OwnC.sl hH 1 rfl hO33) (by simpa using ha)) rfl (fun _ _ _ h => by obtain ⟨_, _, _, hg, _⟩ := h; exact hg) ?_
     clear hH
     intro w34 v35 w36 hH hp37
     obtain ⟨b38, b39, rfl, hg, hfc, hbc, hfx, hbx, hne⟩ := hp37
     replace hH := hH.callnew2 hg hbc hfc hbx hfx hne
     clear hg hfc hbc hfx hbx hne
     (try simp only [nf, nh, Value.cells, arrB_set] at hH ⊢)
     (try simp only [nf])
     refine pm ?_;simp only [nf]
     refine pp rfl rfl (pr_extract rfl rfl) ?_;simp only [nf]
     refine pp rfl rfl (pr_extract rfl rfl) ?_;simp only [nf]
     refine pa (pa ?_);simp only [nf]
     refine plan_nil hH ?_
     clear hH
     intro w40 hH
     refine hK28 _ _ ?_
     (try clear hK28 K28)
     refine wp_seq_k ?_
     intro K41 hK41
     refine wp_seq_k ?_
     intro K42 hK42
     refine wrt [.p 0, .p 1] ?_
     refine pm ?_;simp only [nf]
     refine pp rfl rfl (pr_bin rfl rfl (by first | exact bin_neq_n (n := 0)  | exact bin_neq_i)) ?_;simp only [nf]
     refine plan_nil hH ?_
     clear hH
     intro w43 hH
     refine hK42 _ _ ?_
     (try clear hK42 K42)
     refine wp_cond_false rfl ?_
     refine wp_skip ?_
     refine hK41 _ _ ?_
     (try clear hK41 K41)
     refine wp_seq_k ?_
     intro K44 hK44
     refine wrt [.p 0, .q 1, .p 2, .x 3, .p 4, .p 5, .x 6, .p 7, .p 8, .p 9, .p 10, .p 11] ?_
     refine pm ?_;simp only [nf]
     refine pq rfl rfl (qr_loadW rfl (hH.blk 0 rfl) Tryd.underlying37 rfl sz37 (by simp)) ?_;simp only [nf]
     refine pm ?_;simp only [nf]
     refine plan_callx rfl rfl hH cf29 (fun w' hH => nonce_calls _ _ _ _ w' hb (by omega)) rfl (fun _ _ _ h => by obtain ⟨_, _, _, _, hg, _⟩ := h; exact hg) ?_
     clear hH
     intro w45 v46 w47 hH hp48
     obtain ⟨o49, cap50, cs51, rfl, hg, hO52, hfr⟩ := hp48
     replace hH := hH.callown hg hfr
     clear hg hfr
     (try simp only [nf, nh, Value.cells, arrB_set] at hH ⊢)
     (try simp only [nf])
     refine pm (pm ?_);simp only [nf]
     refine plan_callx rfl rfl hH cf23 (fun w' hH => Seal_calls _ _ _ (hP _) _ _ _ _ _ _ w' (hH.blk 3 rfl) (hH.blk 2 rfl) (OwnC.sl hH 4 rfl hO52) (by rw [nonL_len]; simpa using hb) (hh.chg hH.chg) (hcl.chg hH.chg) (by omega)) rfl (fun _ _ _ h => by obtain ⟨_, _, _, _, hg, _⟩ := h; exact hg) ?_
     clear hH
     intro w53 v54 w55 hH hp56
     obtain ⟨o57, cap58, cs59, rfl, hg, hO60, hfr⟩ := hp56
     replace hH := hH.callown hg hfr
     clear hg hfr
     (try simp only [nf, nh, Value.cells, arrB_set] at hH ⊢)
     (try simp only [nf])
     refine pm ?_;simp only [nf]
     refine pp rfl rfl (pr_extract rfl rfl) ?_;simp only [nf]
     refine pp rfl rfl (pr_extract rfl rfl) ?_;simp only [nf]
     refine pa (pa ?_);simp only [nf]
     refine plan_nil hH ?_
     clear hH
     intro w61 hH
     refine hK44 _ _ ?_
     (try clear hK44 K44)
     refine wp_seq_k ?_
     intro K62 hK62
     refine wp_seq_k ?_
     intro K63 hK63
     refine wrt [.p 0, .p 1] ?_
     refine pm ?_;simp only [nf]
     refine pp rfl rfl (pr_bin rfl rfl (by first | exact bin_neq_n (n := 0)  | exact bin_neq_i)) ?_;simp only [nf]
     refine plan_nil hH ?_
     clear hH
     intro w64 hH
     refine hK63 _ _ ?_
     (try clear hK63 K63)
     refine wp_cond_false rfl ?_
     refine wp_skip ?_
     refine hK62 _ _ ?_
     (try clear hK62 K62)
     refine wp_seq_k ?_
     intro K65 hK65
     refine wrt [.p 0, .x 1, .p 2, .e 3, .p 4] ?_
     refine pm ?_;simp only [nf]
     refine plan_callx rfl rfl hH cf30 (fun w' hH => clone_calls _ _ w' (hh.chg hH.chg) (by first | assumption | (apply List.ne_nil_of_length_pos; omega)) (by first | omega | (simp <;> omega))) rfl (fun _ _ _ h => by obtain ⟨_, _, _, _, hg, _⟩ := h; exact hg) ?_
     clear hH
     intro w66 v67 w68 hH hp69
     obtain ⟨o70, cap71, cs72, rfl, hg, hO73, hfr⟩ := hp69
     replace hH := hH.callown hg hfr
     clear hg hfr
     (try simp only [nf, nh, Value.cells, arrB_set] at hH ⊢)
     (try simp only [nf])
     refine pm ?_;simp only [nf]
     refine plan_append 6 rfl rfl hH rfl hO73 (fun w' hH => ((OwnC.sl hH 5 rfl hO60)).src) rfl rfl Tryd.underlying22 Tryd.underlying22 (.inl ⟨_, rfl⟩) sz5 bz5 ze5 rfl (by first | omega | (rw [sealedL_len]; omega)) (by first | omega | (rw [sealedL_len]; omega)) ?_
     clear hH
     intro o74 cap75 cs76 w77 hO78 hH
     (try simp only [nf] at hH ⊢)
     (try simp only [nf, nh, Value.cells, arrB_set] at hH ⊢)
     try rw [← List.map_append] at hO78
     (try simp only [Nat.zero_add, List.nil_append, List.length_nil] at hO78 ⊢)
     refine pa ?_;simp only [nf]
     refine plan_nil hH ?_
     clear hH
     intro w79 hH
     simp only [sealedL_len] at hO78 ⊢
     obtain ⟨b80, rfl⟩ := OwnC.some hO78 (by omega)
     refine hK65 _ _ ?_
     (try clear hK65 K65)
     refine wp_seq_k ?_
     intro K81 hK81
     refine wrt [.p 0, .p 1, .p 2, .p 3, .p 4] ?_
     refine pm ?_;simp only [nf]
     refine pp rfl rfl (pr_len_Sl (hh.chg hH.chg) rfl Tryd.underlying22) ?_;simp only [nf]
     refine pm ?_;simp only [nf]
     refine pp rfl rfl (pr_bin rfl rfl (by first | exact bin_sub_n (by first | omega | (first | (simp only [List.length_drop, List.length_append, sealedL_len] at *; omega) | (have := lt_u8 (hl.getD 0 0 &&& 3); omega))) (by first | omega | (first | (simp only [List.length_drop, List.length_append, sealedL_len] at *; omega) | (have := lt_u8 (hl.getD 0 0 &&& 3); omega))) | exact bin_sub_i (by first | omega | (first | (simp only [List.length_drop, List.length_append, sealedL_len] at *; omega) | (have := lt_u8 (hl.getD 0 0 &&& 3); omega))) (by first | omega | (first | (simp only [List.length_drop, List.length_append, sealedL_len] at *; omega) | (have := lt_u8 (hl.getD 0 0 &&& 3); omega))))) ?_;simp only [nf]
     refine pa ?_;simp only [nf]
     refine plan_nil hH ?_
     clear hH
     intro w82 hH
     refine hK81 _ _ ?_
     (try clear hK81 K81)
     refine wp_seq_k ?_
     intro K83 hK83
     refine wrt [.p 0, .q 1, .p 2, .p 3, .x 4, .p 5, .p 6, .e 7] ?_
     refine pm ?_;simp only [nf]
     refine pq rfl rfl (qr_loadW rfl (hH.blk 0 rfl) Tryd.underlying37 rfl sz37 (by simp)) ?_;simp only [nf]
     refine pm (pm ?_);simp only [nf]
     refine plan_callx rfl rfl hH cf32 (fun w' hH => mask_calls _ _ _ _ _ _ w' (OwnC.sl hH 6 rfl hO78) hc (by rw [List.length_append, sealedL_len]; omega) (by rw [List.length_append, sealedL_len]; omega)) rfl (fun _ _ _ h => h.choose_spec.2.1) ?_
     clear hH
     intro w84 v85 w86 hH hp87
     obtain ⟨b88, rfl, hg, hfr, hbk⟩ := hp87
     replace hH := hH.callnew hg hbk hfr
     clear hg hfr hbk
     (try simp only [nf, nh, Value.cells, arrB_set] at hH ⊢)
     (try simp only [nf])
     refine pm (pm ?_);simp only [nf]
     refine plan_calle rfl rfl hH cf31 (fun w' hH => hide_calls _ _ _ _ (sealBody a b hl nu cl) (maskL c.data.toList (sealBody a b hl nu cl) (hl.length - sz)) _ (hl.length - sz) sz w' (sealBody_len a b hl nu cl) (hH.blk 6 rfl) hO78 (fun w'' hw => (Sl.of_arr8 (o := 0) (n := 16) (hw.blk (hH.blk 7 rfl) (by simp only [List.mem_singleton]; exact hH.other (i := 6) rfl (j := 7) rfl (by decide) rfl)) (by omega) (by omega)).of_eq (by simp only [Nat.zero_add]; rfl)) (by rw [sealBody_len]; omega) (by rw [sealBody_len]; omega) (by rw [maskL_len]; omega) (by rw [sealBody_len]; omega)) rfl ?_
     clear hH
     intro w89 v90 w91 hH hp92
     obtain ⟨rfl, hg, cs93, hbk, hO94⟩ := hp92
     replace hH := hH.callw 6 rfl hg hbk
     clear hg hbk
     (try simp only [nf, nh, Value.cells, arrB_set] at hH ⊢)
     refine plan_nil hH ?_
     clear hH
     intro w95 hH
     refine hK83 _ _ ?_
     (try clear hK83 K83)
     refine wp_seq_k ?_
     intro K96 hK96
     refine wrt [.p 0, .p 1, .p 2] ?_
     refine pm (pa (pka 0 ?_));simp only [nf]
     refine plan_nil hH ?_
     clear hH
     intro w97 hH
     refine hK96 _ _ ?_
     (try clear hK96 K96)
     refine wp_ret ?_
     (try simp only [Exit.then, Exit.inBlock, ↓reduceIte, Nat.reduceEqDiff])
     refine BP.ret2 rfl rfl rfl ?_
     have hform : (hl.getD 0 0).toNat % 4 = sz - 1 ∧ lowN (hl.drop (hl.length - sz)) sz = nu % 2 ^ (8 * sz) := by
       rw [u8_and3, Nat.one_mul, Nat.and_two_pow_sub_one_eq_mod, List.length_drop] at hf
       rw [show hl.length - (hl.length - sz) = sz by omega] at hf
       exact hf
     have he : sealE a b c hl (sz : Nat) (nu : Nat) cl.length = 0 := by
       unfold sealE
       rw [if_pos hok, hm, hnm, if_pos hform, if_neg (by omega), if_neg (by omega)]
     exact ⟨fun _ => ⟨_, _, _, rfl, hH.chg, (by assumption), hH.owned 6 rfl⟩, fun e h1 h2 => absurd (h1.symm.trans he) h2⟩
end Go.Proofs.YtmoaddicejohgaaDoor
set_option linter.unusedSimpArgs false
set_option linter.unusedVariables false
set_option maxRecDepth 100000
set_option maxHeartbeats 4000000
namespace Go.Proofs.YtmoaddicejohgaaDoor
open Go
open List (getD_cons_zero getD_cons_succ set_cons_zero set_cons_succ)
def opSz (c : ByteArray) (l : List UInt8) (p : Nat) : Nat := ((l.getD 0 0 ^^^ (maskL c.data.toList l p).getD 0 0) &&& 3).toNat + 1
def opBare (c : ByteArray) (l : List UInt8) (p : Nat) : List UInt8 := hideL l (maskL c.data.toList l p) p (opSz c l p)
def opNum (c : ByteArray) (l : List UInt8) (p e : Nat) : Nat := wholeN (lowN ((opBare c l p).drop p) (opSz c l p)) (opSz c l p) e
def opHead (c : ByteArray) (l : List UInt8) (p : Nat) : List UInt8 := (opBare c l p).take (p + opSz c l p)
def opRest (c : ByteArray) (l : List UInt8) (p : Nat) : List UInt8 := (opBare c l p).drop (p + opSz c l p)
def opBody (c : ByteArray) (l : List UInt8) (p : Nat) : List UInt8 := (opRest c l p).take ((opRest c l p).length - 16)
def opOk (a b c : ByteArray) (l : List UInt8) (p e : Nat) : Prop :=
  sealL (keyF16 a) (hP (keyF16 a)) (nonL b.data.toList (opNum c l p e) 8) (opHead c l p) (opBody c l p) = (opRest c l p).drop ((opRest c l p).length - 16)
instance (a b c : ByteArray) (l : List UInt8) (p e : Nat) : Decidable (opOk a b c l p e) := inferInstanceAs (Decidable (_ = _))
def opOut (a b c : ByteArray) (l : List UInt8) (p e : Nat) : List UInt8 := hidL (keyF16 a) (nonL b.data.toList (opNum c l p e) 8) (opBody c l p)
def openE (a b c : ByteArray) (l : List UInt8) (p e : Int) : Nat :=
  if 1 ≤ p ∧ 0 ≤ e ∧ e ≤ 4611686018427387903 ∧ rightB a b c = true then
    if p + 20 ≤ l.length then (if opOk a b c l p.toNat e.toNat then 0 else 4) else 3
  else 1
theorem opSz_lo (c : ByteArray) (l : List UInt8) (p : Nat) : 1 ≤ opSz c l p ∧ opSz c l p ≤ 4 := by
  unfold opSz; rw [u8_and3]; omega
theorem opBare_len (c : ByteArray) (l : List UInt8) (p : Nat) : (opBare c l p).length = l.length := hideL_len ..
theorem opRest_len (c : ByteArray) (l : List UInt8) (p : Nat) : (opRest c l p).length = l.length - (p + opSz c l p) := by
  unfold opRest; rw [List.length_drop, opBare_len]
theorem lowN_take (l : List UInt8) : ∀ n m, n ≤ m → lowN (l.take m) n = lowN l n
  | 0, _, _ => rfl
  | n + 1, m, h => by
    rw [lowN_succ, lowN_succ, lowN_take l n m (by omega)]
    simp only [List.getD, List.getElem?_take]
    rw [if_pos (by omega)]
theorem low_cut (l : List UInt8) (p n : Nat) (h : p + n ≤ l.length) : lowN ((l.drop p).take (p + n - p)) ((l.drop p).take (p + n - p)).length = lowN (l.drop p) n := by
  rw [Nat.add_sub_cancel_left, List.length_take, List.length_drop, Nat.min_eq_left (by omega), lowN_take _ _ _ (Nat.le_refl _)]
theorem whole_lt (low size e : Nat) (h1 : 1 ≤ size) (h4 : size ≤ 4) (hl : low < 2 ^ (8 * size)) (he : e ≤ 4611686018427387903) : wholeN low size e < 9223372036854775808 := by
  obtain ⟨hw1, hw2, hw3⟩ := pow_size size h1 h4
  have hdm : e / 2 ^ (8 * size) * 2 ^ (8 * size) ≤ e := Nat.div_mul_le_self _ _
  unfold wholeN
  split
  · omega
  · split <;> omega
theorem gopen_calls (a b c : ByteArray) (bv : Value) (l : List UInt8) (p e : Int) (w : World) (hv : Sl w bv l) (hl : l.length ≤ 65000) (hp1 : -9223372036854775808 ≤ p) (hp2 : p ≤ 9223372036854775807) : Ret Tryd.prog 16 #[.agg #[.string a, .string b, .string c], bv, I64 p, I64 e] w fun v w' => (openE a b c l p e = 0 → ∃ o1 cs1 o2 cap2 cs2, v = .tuple #[ownO o1 0 (p.toNat + opSz c l p.toNat) (p.toNat + opSz c l p.toNat), I64 (opNum c l p.toNat e.toNat : Nat), own o2 ((opRest c l p.toNat).length - 16) cap2, I64 (0 : Nat)] ∧ Hp [] w w' [(o1, 5, cs1), (o2, 5, cs2)] ∧ OwnD o1 0 (p.toNat + opSz c l p.toNat) (p.toNat + opSz c l p.toNat) cs1 (opHead c l p.toNat) ∧ OwnC o2 ((opRest c l p.toNat).length - 16) cap2 1 cs2 ((opOut a b c l p.toNat e.toNat).map V8)) ∧ ∀ k, openE a b c l p e = k → k ≠ 0 → v = .tuple #[.slice none 0 0, I64 (0 : Nat), .slice none 0 0, I64 (k : Nat)] ∧ Chg [] w w' := by
 refine Ret.enter Tryd.func16 rfl ?_
 simp only [Tryd.ntmps16, fe, Nat.reduceAdd, Nat.reduceSub]
 have hH := Hp.start [] w
 refine wp_seq_k ?_
 intro K1 hK1
 refine wrt [.x 0, .p 1, .p 2, .p 3, .p 4] ?_
 refine plan_box rfl rfl hH rfl ?_
 clear hH
 intro b2 w3 hH
 (try simp only [nf, nh, Value.cells, arrB_set] at hH ⊢)
 refine pa (pka 0 (pa (pka 0 ?_)));simp only [nf]
 refine plan_nil hH ?_
 clear hH
 intro w4 hH
 refine hK1 _ _ ?_
 (try clear hK1 K1)
 refine wp_seq_k ?_
 intro K5 hK5
 refine wp_block ?_
 refine wp_seq_k ?_
 intro K6 hK6
 refine wrt [.p 0, .p 1, .p 2, .p 3, .p 4, .p 5, .p 6, .p 7, .p 8, .p 9, .p 10, .q 11, .q 12, .p 13, .p 14, .p 15] ?_
 refine pm ?_;simp only [nf]
 refine pp rfl rfl (pr_bin rfl rfl (by first | exact bin_lss_n (n := 1)  | exact bin_lss_i)) ?_;simp only [nf]
 refine pm ?_;simp only [nf]
 refine plan_pc_f rfl rfl rfl (fun hb => by have hb' := hb; try simp only [gsl] at hb'; rw [hb]; exact pr_move) ?_
 (try simp only [nf])
 refine plan_pc_f rfl rfl rfl (fun hb => by have hb' := hb; try simp only [gsl] at hb'; rw [hb]; exact (pr_bin rfl rfl (by first | exact bin_lss_n (n := 0)  | exact bin_lss_i))) ?_
 (try simp only [nf])
 refine pp rfl rfl (pr_pick_or rfl rfl rfl) ?_;simp only [nf]
 refine pm ?_;simp only [nf]
 refine plan_pc_f rfl rfl rfl (fun hb => by have hb' := hb; try simp only [gsl] at hb'; rw [hb]; exact pr_move) ?_
 (try simp only [nf])
 refine plan_pc_f rfl rfl rfl (fun hb => by have hb' := hb; try simp only [gsl] at hb'; rw [hb]; exact (pr_bin rfl rfl (by first | exact bin_gtr_n (n := 4611686018427387903)  | exact bin_gtr_i))) ?_
 (try simp only [nf])
 refine pp rfl rfl (pr_pick_or rfl rfl rfl) ?_;simp only [nf]
 refine pm ?_;simp only [nf]
 refine plan_qc_f rfl rfl rfl (fun hb => by have hb' := hb; try simp only [gsl] at hb'; rw [hb]; exact (qr_loadW rfl (hH.blk 0 rfl) Tryd.underlying37 rfl sz37 (by simp))) ?_
 (try simp only [nf])
 refine plan_qc_f rfl rfl rfl (fun hb => by have hb' := hb; try simp only [gsl] at hb'; rw [hb]; exact (qr_call cf27 (fun w' hw => right_calls _ _ _ w') rfl)) ?_
 (try simp only [nf])
 refine plan_pc_f rfl rfl rfl (fun hb => by have hb' := hb; try simp only [gsl] at hb'; rw [hb]; exact (pr_not rfl)) ?_
 (try simp only [nf])
 refine pp rfl rfl (pr_pick_or rfl rfl rfl) ?_;simp only [nf]
 refine pa ?_;simp only [nf]
 refine plan_nil hH ?_
 clear hH
 intro w7 hH
 refine hK6 _ _ ?_
 (try clear hK6 K6)
 refine wp_cond_split rfl (fun hc8 => ?_) (fun hc8 => ?_)
 ·
  (try simp only [cnd, gsl] at hc8)
  have hq := hc8
  refine wp_seq_k ?_
  intro K9 hK9
  refine wrt [.p 0, .p 1, .p 2, .p 3] ?_
  refine pa (pka 0 (pa (pka 1 ?_)));simp only [nf]
  refine plan_nil hH ?_
  clear hH
  intro w10 hH
  refine hK9 _ _ ?_
  (try clear hK9 K9)
  refine wp_ret ?_
  (try simp only [Exit.then, Exit.inBlock, ↓reduceIte, Nat.reduceEqDiff])
  refine BP.ret4 rfl rfl rfl rfl rfl ?_
  have he : openE a b c l p e = 1 := by
    unfold openE
    rw [if_neg (fun h => by (obtain ⟨h1, h2, h3, h5⟩ := h; rcases hq with ((hq | hq) | hq) | hq <;> first | omega | (rw [h5] at hq; cases hq)))]
  exact ⟨fun h => by (rw [he] at h; cases h), fun k h1 _ => by (rw [he] at h1; subst h1; exact ⟨rfl, hH.chg⟩)⟩
 ·
  (try simp only [cnd, gsl] at hc8)
  have hq := hc8
  have hok : 1 ≤ p ∧ 0 ≤ e ∧ e ≤ 4611686018427387903 ∧ rightB a b c = true := ⟨by omega, by omega, by omega, hq.2⟩
  obtain ⟨ha, hb, hc⟩ := rightB_is hok.2.2.2
  obtain ⟨pn, rfl⟩ : ∃ k : Nat, p = k := ⟨p.toNat, by omega⟩
  obtain ⟨en, rfl⟩ : ∃ k : Nat, e = k := ⟨e.toNat, by omega⟩
  have hm : ((pn : Nat) : Int).toNat = pn := by omega
  have hnm : ((en : Nat) : Int).toNat = en := by omega
  refine wp_seq_k ?_
  intro K11 hK11
  refine wrt [.p 0, .p 1, .p 2, .p 3, .p 4, .p 5, .p 6, .p 7, .p 8, .p 9, .p 10, .p 11] ?_
  refine pm (pm ?_);simp only [nf]
  refine pp rfl rfl (pr_len_Sl (hv.chg hH.chg) rfl Tryd.underlying22) ?_;simp only [nf]
  refine pp rfl rfl (pr_bin rfl rfl (by first | exact bin_gtr_n  | exact bin_gtr_i)) ?_;simp only [nf]
  refine pm ?_;simp only [nf]
  refine plan_pc_f rfl rfl rfl (fun hb => by have hb' := hb; try simp only [gsl] at hb'; rw [hb]; exact pr_move) ?_
  (try simp only [nf])
  refine plan_pc_f rfl rfl rfl (fun hb => by have hb' := hb; try simp only [gsl] at hb'; rw [hb]; exact (pr_len_Sl (hv.chg hH.chg) rfl Tryd.underlying22)) ?_
  (try simp only [nf])
  refine plan_pc_f rfl rfl rfl (fun hb => by have hb' := hb; try simp only [gsl] at hb'; rw [hb]; exact pr_move) ?_
  (try simp only [nf])
  refine plan_pc_f rfl rfl rfl (fun hb => by have hb' := hb; try simp only [gsl] at hb'; rw [hb]; exact (pr_bin rfl rfl (by first | exact bin_sub_n (by first | omega | (first | (simp only [hideL_len, List.length_take, List.length_drop] at *; omega) | (rw [hbl]; omega) | (have := lt_u8 ((l.getD 0 0 ^^^ maskF c.data.toList l pn 0) &&& 3); omega))) (by first | omega | (first | (simp only [hideL_len, List.length_take, List.length_drop] at *; omega) | (rw [hbl]; omega) | (have := lt_u8 ((l.getD 0 0 ^^^ maskF c.data.toList l pn 0) &&& 3); omega))) | exact bin_sub_i (by first | omega | (first | (simp only [hideL_len, List.length_take, List.length_drop] at *; omega) | (rw [hbl]; omega) | (have := lt_u8 ((l.getD 0 0 ^^^ maskF c.data.toList l pn 0) &&& 3); omega))) (by first | omega | (first | (simp only [hideL_len, List.length_take, List.length_drop] at *; omega) | (rw [hbl]; omega) | (have := lt_u8 ((l.getD 0 0 ^^^ maskF c.data.toList l pn 0) &&& 3); omega)))))) ?_
  (try simp only [nf])
  refine plan_pc_f rfl rfl rfl (fun hb => by have hb' := hb; try simp only [gsl] at hb'; rw [hb]; exact (pr_bin rfl rfl (by first | exact bin_lss_n (n := 20)  | exact bin_lss_i))) ?_
  (try simp only [nf])
  refine pp rfl rfl (pr_pick_or rfl rfl rfl) ?_;simp only [nf]
  refine pa ?_;simp only [nf]
  refine plan_nil hH ?_
  clear hH
  intro w12 hH
  refine hK11 _ _ ?_
  (try clear hK11 K11)
  refine wp_cond_split rfl (fun hc13 => ?_) (fun hc13 => ?_)
  ·
   (try simp only [cnd, gsl] at hc13)
   have ht := hc13
   refine wp_seq_k ?_
   intro K14 hK14
   refine wrt [.p 0, .p 1, .p 2, .p 3] ?_
   refine pa (pka 0 (pa (pka 3 ?_)));simp only [nf]
   refine plan_nil hH ?_
   clear hH
   intro w15 hH
   refine hK14 _ _ ?_
   (try clear hK14 K14)
   refine wp_ret ?_
   (try simp only [Exit.then, Exit.inBlock, ↓reduceIte, Nat.reduceEqDiff])
   refine BP.ret4 rfl rfl rfl rfl rfl ?_
   have he : openE a b c l (pn : Nat) (en : Nat) = 3 := by
     unfold openE
     rw [if_pos hok, if_neg (by omega)]
   exact ⟨fun h => by (rw [he] at h; cases h), fun k h1 _ => by (rw [he] at h1; subst h1; exact ⟨rfl, hH.chg⟩)⟩
  ·
   (try simp only [cnd, gsl] at hc13)
   have ht := hc13
   have hlen : pn + 20 ≤ l.length := by omega
   obtain ⟨hz1, hz2⟩ := opSz_lo c l pn
   obtain ⟨hw1, hw2, hw3⟩ := pow_size (opSz c l pn) hz1 hz2
   have hbl := opBare_len c l pn
   have hrl := opRest_len c l pn
   have hlw := lowN_lt ((opBare c l pn).drop pn) (opSz c l pn)
   have hnb : opNum c l pn en < 9223372036854775808 := whole_lt _ _ _ hz1 hz2 hlw (by omega)
   have hcut := low_cut (opBare c l pn) pn (opSz c l pn) (by omega)
   refine wp_skip ?_
   refine hK5 _ _ ?_
   (try clear hK5 K5)
   refine wp_seq_k ?_
   intro K16 hK16
   refine wrt [.p 0, .x 1, .p 2] ?_
   refine pm ?_;simp only [nf]
   refine plan_callx rfl rfl hH cf30 (fun w' hH => clone_calls _ _ w' (hv.chg hH.chg) (by apply List.ne_nil_of_length_pos; omega) (by omega)) rfl (fun _ _ _ h => by obtain ⟨_, _, _, _, hg, _⟩ := h; exact hg) ?_
   clear hH
   intro w17 v18 w19 hH hp20
   obtain ⟨o21, cap22, cs23, rfl, hg, hO24, hfr⟩ := hp20
   replace hH := hH.callown hg hfr
   clear hg hfr
   (try simp only [nf, nh, Value.cells, arrB_set] at hH ⊢)
   (try simp only [nf])
   refine pa ?_;simp only [nf]
   refine plan_nil hH ?_
   clear hH
   intro w25 hH
   obtain ⟨b26, rfl⟩ := OwnC.some hO24 (by omega)
   refine hK16 _ _ ?_
   (try clear hK16 K16)
   refine wp_seq_k ?_
   intro K27 hK27
   refine wrt [.q 0, .p 1, .p 2, .x 3, .p 4] ?_
   refine pq rfl rfl (qr_loadW rfl (hH.blk 0 rfl) Tryd.underlying37 rfl sz37 (by simp)) ?_;simp only [nf]
   refine pm (pm ?_);simp only [nf]
   refine plan_callx rfl rfl hH cf32 (fun w' hH => mask_calls _ _ _ _ _ _ w' (OwnC.sl hH 1 rfl hO24) hc hlen (by omega)) rfl (fun _ _ _ h => h.choose_spec.2.1) ?_
   clear hH
   intro w28 v29 w30 hH hp31
   obtain ⟨b32, rfl, hg, hfr, hbk⟩ := hp31
   replace hH := hH.callnew hg hbk hfr
   clear hg hfr hbk
   (try simp only [nf, nh, Value.cells, arrB_set] at hH ⊢)
   (try simp only [nf])
   refine pa ?_;simp only [nf]
   refine plan_nil hH ?_
   clear hH
   intro w33 hH
   refine hK27 _ _ ?_
   (try clear hK27 K27)
   refine wp_seq_k ?_
   intro K34 hK34
   refine wrp [.p 0, .p 1, .p 3, .p 4, .q 2, .q 5, .p 6, .p 7, .p 8, .p 9, .p 10] ?_
   refine pm ?_;simp only [nf]
   refine pp rfl rfl (pr_idx_Sl (i := 0) (OwnC.sl hH 1 rfl hO24) rfl rfl Tryd.underlying22 sz5 (by first | omega | (first | (simp only [hideL_len, List.length_take, List.length_drop] at *; omega) | (rw [hbl]; omega) | (have := lt_u8 ((l.getD 0 0 ^^^ maskF c.data.toList l pn 0) &&& 3); omega)))) ?_;simp only [nf]
   refine pm ?_;simp only [nf]
   refine pp rfl rfl (pr_idxS1 (i := 0) rfl rfl Tryd.underlying22 sz5 (by first | omega | (first | (simp only [hideL_len, List.length_take, List.length_drop] at *; omega) | (rw [hbl]; omega) | (have := lt_u8 ((l.getD 0 0 ^^^ maskF c.data.toList l pn 0) &&& 3); omega)))) ?_;simp only [nf]
   refine pq rfl rfl (qr_load1 rfl Tryd.underlying5 rfl (Sl.cell (i := 0) (OwnC.sl hH 1 rfl hO24) (by first | omega | (first | (simp only [hideL_len, List.length_take, List.length_drop] at *; omega) | (rw [hbl]; omega) | (have := lt_u8 ((l.getD 0 0 ^^^ maskF c.data.toList l pn 0) &&& 3); omega))))) ?_;simp only [nf]
   refine pq rfl rfl (qr_load1 rfl Tryd.underlying5 rfl ((hH.blk 2 rfl).cell (arr8_get (by first | omega | (first | (simp only [hideL_len, List.length_take, List.length_drop] at *; omega) | (rw [hbl]; omega) | (have := lt_u8 ((l.getD 0 0 ^^^ maskF c.data.toList l pn 0) &&& 3); omega)))))) ?_;simp only [nf]
   refine pp rfl rfl (pr_bin rfl rfl (bin_xor_u8 _ _)) ?_;simp only [nf]
   refine pp rfl rfl (pr_bin rfl rfl (bin_and_u8 _ 3)) ?_;simp only [nf]
   refine pp rfl rfl (pr_conv rfl (cnv_u8_n _ Tryd.underlying5 Tryd.underlying3)) ?_;simp only [nf]
   refine pp rfl rfl (pr_bin rfl rfl (by first | exact bin_add_n (n := 1) (by first | omega | (first | (simp only [hideL_len, List.length_take, List.length_drop] at *; omega) | (rw [hbl]; omega) | (have := lt_u8 ((l.getD 0 0 ^^^ maskF c.data.toList l pn 0) &&& 3); omega))) | exact bin_add_i (by first | omega | (first | (simp only [hideL_len, List.length_take, List.length_drop] at *; omega) | (rw [hbl]; omega) | (have := lt_u8 ((l.getD 0 0 ^^^ maskF c.data.toList l pn 0) &&& 3); omega))) (by first | omega | (first | (simp only [hideL_len, List.length_take, List.length_drop] at *; omega) | (rw [hbl]; omega) | (have := lt_u8 ((l.getD 0 0 ^^^ maskF c.data.toList l pn 0) &&& 3); omega))))) ?_;simp only [nf]
   refine pa ?_;simp only [nf]
   refine plan_nil hH ?_
   clear hH
   intro w35 hH
   have hsz : ((l.getD 0 0 ^^^ maskF c.data.toList l pn 0) &&& 3).toNat + 1 = opSz c l pn := by unfold opSz; rw [show (maskL c.data.toList l pn).getD 0 0 = maskF c.data.toList l pn 0 from cut16 _ (by decide)]
   rw [hsz]
   refine hK34 _ _ ?_
   (try clear hK34 K34)
   refine wp_seq_k ?_
   intro K36 hK36
   refine wrt [.p 0, .p 1, .p 2, .p 3, .e 4] ?_
   refine pm (pm (pm (pm ?_)));simp only [nf]
   refine plan_calle rfl rfl hH cf31 (fun w' hH => hide_calls _ _ _ _ l (maskL c.data.toList l pn) _ pn (opSz c l pn) w' rfl (hH.blk 1 rfl) hO24 (fun w'' hw => (Sl.of_arr8 (o := 0) (n := 16) (hw.blk (hH.blk 2 rfl) (by simp only [List.mem_singleton]; exact hH.other (i := 1) rfl (j := 2) rfl (by decide) rfl)) (by omega) (by omega)).of_eq (by simp only [Nat.zero_add]; rfl)) (by omega) (by omega) (by rw [maskL_len]; omega) (by omega)) rfl ?_
   clear hH
   intro w37 v38 w39 hH hp40
   obtain ⟨rfl, hg, cs41, hbk, hO42⟩ := hp40
   replace hH := hH.callw 1 rfl hg hbk
   clear hg hbk
   (try simp only [nf, nh, Value.cells, arrB_set] at hH ⊢)
   refine plan_nil hH ?_
   clear hH
   intro w43 hH
   replace hO42 : OwnC _ _ _ 1 _ ((opBare c l pn).map V8) := hO42
   refine hK36 _ _ ?_
   (try clear hK36 K36)
   refine wp_seq_k ?_
   intro K44 hK44
   refine wrt [.p 0, .p 1, .p 2, .p 3] ?_
   refine pm (pm ?_);simp only [nf]
   refine pp rfl rfl (pr_bin rfl rfl (by first | exact bin_add_n (by first | omega | (first | (simp only [hideL_len, List.length_take, List.length_drop] at *; omega) | (rw [hbl]; omega) | (have := lt_u8 ((l.getD 0 0 ^^^ maskF c.data.toList l pn 0) &&& 3); omega))) | exact bin_add_i (by first | omega | (first | (simp only [hideL_len, List.length_take, List.length_drop] at *; omega) | (rw [hbl]; omega) | (have := lt_u8 ((l.getD 0 0 ^^^ maskF c.data.toList l pn 0) &&& 3); omega))) (by first | omega | (first | (simp only [hideL_len, List.length_take, List.length_drop] at *; omega) | (rw [hbl]; omega) | (have := lt_u8 ((l.getD 0 0 ^^^ maskF c.data.toList l pn 0) &&& 3); omega))))) ?_;simp only [nf]
   refine pa ?_;simp only [nf]
   refine plan_nil hH ?_
   clear hH
   intro w45 hH
   refine hK44 _ _ ?_
   (try clear hK44 K44)
   refine wp_seq_k ?_
   intro K46 hK46
   refine wrt [.p 0, .p 1, .p 2, .p 3, .q 4, .p 5, .p 6, .q 7, .p 8, .p 9, .p 10, .p 11, .p 12] ?_
   refine pm (pm (pm ?_));simp only [nf]
   refine pp rfl rfl (pr_slice_Sl_lh (OwnC.sl hH 1 rfl hO42) rfl rfl rfl Tryd.underlying22 sz5 (by first | omega | (first | (simp only [hideL_len, List.length_take, List.length_drop] at *; omega) | (rw [hbl]; omega) | (have := lt_u8 ((l.getD 0 0 ^^^ maskF c.data.toList l pn 0) &&& 3); omega))) (by first | omega | (first | (simp only [hideL_len, List.length_take, List.length_drop] at *; omega) | (rw [hbl]; omega) | (have := lt_u8 ((l.getD 0 0 ^^^ maskF c.data.toList l pn 0) &&& 3); omega)))) ?_;simp only [nf]
   refine pq rfl rfl (qr_call cf28 (fun w' hw => low_calls _ _ w' ((Sl.cut (OwnC.sl hH 1 rfl hO42) (by first | omega | (first | (simp only [hideL_len, List.length_take, List.length_drop] at *; omega) | (rw [hbl]; omega) | (have := lt_u8 ((l.getD 0 0 ^^^ maskF c.data.toList l pn 0) &&& 3); omega))) (by first | omega | (first | (simp only [hideL_len, List.length_take, List.length_drop] at *; omega) | (rw [hbl]; omega) | (have := lt_u8 ((l.getD 0 0 ^^^ maskF c.data.toList l pn 0) &&& 3); omega)))).chg hw) (by rw [List.length_take, List.length_drop]; omega)) rfl) ?_;simp only [nf]
   refine pm (pm ?_);simp only [nf]
   refine pq rfl rfl (qr_call cf35 (fun w' hw => pkwhole_calls _ _ _ w' hz1 hz2 (by rw [hcut]; exact hlw) (by omega)) rfl) ?_;simp only [nf]
   refine pm ?_;simp only [nf]
   refine pp rfl rfl (pr_extract rfl rfl) ?_;simp only [nf]
   refine pp rfl rfl (pr_extract rfl rfl) ?_;simp only [nf]
   refine pa (pa ?_);simp only [nf]
   refine plan_nil hH ?_
   clear hH
   intro w47 hH
   rw [hcut]
   have hnum : wholeN (lowN ((opBare c l pn).drop pn) (opSz c l pn)) (opSz c l pn) en = opNum c l pn en := rfl
   rw [hnum]
   refine hK46 _ _ ?_
   (try clear hK46 K46)
   refine wp_seq_k ?_
   intro K48 hK48
   refine wp_seq_k ?_
   intro K49 hK49
   refine wrt [.p 0, .p 1] ?_
   refine pm ?_;simp only [nf]
   refine pp rfl rfl (pr_bin rfl rfl (by first | exact bin_neq_n (n := 0)  | exact bin_neq_i)) ?_;simp only [nf]
   refine plan_nil hH ?_
   clear hH
   intro w50 hH
   refine hK49 _ _ ?_
   (try clear hK49 K49)
   refine wp_cond_false rfl ?_
   refine wp_skip ?_
   refine hK48 _ _ ?_
   (try clear hK48 K48)
   refine wp_seq_k ?_
   intro K51 hK51
   refine wrt [.p 0, .q 1, .x 2, .x 3, .p 4, .p 5, .p 6, .p 7, .p 8] ?_
   refine pp rfl rfl (pr_fieldAddr 0 rfl Tryd.underlying37 rfl rfl sz9) ?_;simp only [nf]
   refine pq rfl rfl (qr_load1 rfl Tryd.underlying9 rfl ((hH.blk 0 rfl).cell rfl)) ?_;simp only [nf]
   refine plan_s2b rfl rfl hH rfl Tryd.underlying9 Tryd.underlying22 Tryd.underlying5 ?_
   clear hH
   intro b52 cap53 cs54 w55 hO56 hH
   (try simp only [nf] at hH ⊢)
   (try simp only [nf, nh, Value.cells, arrB_set] at hH ⊢)
   refine plan_callx rfl rfl hH cf22 (fun w' hH => gnew_calls _ _ w' (OwnC.sl hH 3 rfl hO56) (by simpa using ha)) rfl (fun _ _ _ h => by obtain ⟨_, _, _, hg, _⟩ := h; exact hg) ?_
   clear hH
   intro w57 v58 w59 hH hp60
   obtain ⟨b61, b62, rfl, hg, hfc, hbc, hfx, hbx, hne⟩ := hp60
   replace hH := hH.callnew2 hg hbc hfc hbx hfx hne
   clear hg hfc hbc hfx hbx hne
   (try simp only [nf, nh, Value.cells, arrB_set] at hH ⊢)
   (try simp only [nf])
   refine pm ?_;simp only [nf]
   refine pp rfl rfl (pr_extract rfl rfl) ?_;simp only [nf]
   refine pp rfl rfl (pr_extract rfl rfl) ?_;simp only [nf]
   refine pa (pa ?_);simp only [nf]
   refine plan_nil hH ?_
   clear hH
   intro w63 hH
   refine hK51 _ _ ?_
   (try clear hK51 K51)
   refine wp_seq_k ?_
   intro K64 hK64
   refine wp_seq_k ?_
   intro K65 hK65
   refine wrt [.p 0, .p 1] ?_
   refine pm ?_;simp only [nf]
   refine pp rfl rfl (pr_bin rfl rfl (by first | exact bin_neq_n (n := 0)  | exact bin_neq_i)) ?_;simp only [nf]
   refine plan_nil hH ?_
   clear hH
   intro w66 hH
   refine hK65 _ _ ?_
   (try clear hK65 K65)
   refine wp_cond_false rfl ?_
   refine wp_skip ?_
   refine hK64 _ _ ?_
   (try clear hK64 K64)
   refine wp_seq_k ?_
   intro K67 hK67
   by_cases hopen : opOk a b c l pn en
   ·
    refine wrp [.p 0, .p 2, .p 4, .p 5, .p 6, .p 7, .p 8, .p 9, .q 1, .x 3, .x 10, .p 11, .p 12, .p 13, .p 14, .p 15] ?_
    refine pm (pm (pm (pm ?_)));simp only [nf]
    refine pp rfl rfl (pr_slice_Sl_h (OwnC.sl hH 1 rfl hO42) rfl rfl Tryd.underlying22 sz5 (by first | omega | (first | (simp only [hideL_len, List.length_take, List.length_drop] at *; omega) | (rw [hbl]; omega) | (have := lt_u8 ((l.getD 0 0 ^^^ maskF c.data.toList l pn 0) &&& 3); omega)))) ?_;simp only [nf]
    refine pm (pm ?_);simp only [nf]
    refine pp rfl rfl (pr_slice_Sl_l (OwnC.sl hH 1 rfl hO42) rfl rfl Tryd.underlying22 sz5 (by first | omega | (first | (simp only [hideL_len, List.length_take, List.length_drop] at *; omega) | (rw [hbl]; omega) | (have := lt_u8 ((l.getD 0 0 ^^^ maskF c.data.toList l pn 0) &&& 3); omega)))) ?_;simp only [nf]
    refine pq rfl rfl (qr_loadW rfl (hH.blk 0 rfl) Tryd.underlying37 rfl sz37 (by simp)) ?_;simp only [nf]
    refine plan_callx rfl rfl hH cf29 (fun w' hH => nonce_calls _ _ _ _ w' hb hnb) rfl (fun _ _ _ h => by obtain ⟨_, _, _, _, hg, _⟩ := h; exact hg) ?_
    clear hH
    intro w68 v69 w70 hH hp71
    obtain ⟨o72, cap73, cs74, rfl, hg, hO75, hfr⟩ := hp71
    replace hH := hH.callown hg hfr
    clear hg hfr
    (try simp only [nf, nh, Value.cells, arrB_set] at hH ⊢)
    (try simp only [nf])
    refine plan_callx rfl rfl hH cf36 (fun w' hH => Open_calls _ _ _ (hP _) _ _ _ _ _ _ w' (hH.blk 5 rfl) (hH.blk 4 rfl) (OwnC.sl hH 6 rfl hO75) (by rw [nonL_len]; simpa using hb) ((Sl.cuth (OwnC.sl hH 1 rfl hO42) (by first | omega | (first | (simp only [hideL_len, List.length_take, List.length_drop] at *; omega) | (rw [hbl]; omega) | (have := lt_u8 ((l.getD 0 0 ^^^ maskF c.data.toList l pn 0) &&& 3); omega)))).of_eq (show _ = opHead c l pn from rfl)) ((Sl.cutl (OwnC.sl hH 1 rfl hO42) (by first | omega | (first | (simp only [hideL_len, List.length_take, List.length_drop] at *; omega) | (rw [hbl]; omega) | (have := lt_u8 ((l.getD 0 0 ^^^ maskF c.data.toList l pn 0) &&& 3); omega)))).of_eq (show _ = opRest c l pn from rfl)) (by omega) (by omega) hopen) rfl (fun _ _ _ h => by obtain ⟨_, _, _, _, hg, _⟩ := h; exact hg) ?_
    clear hH
    intro w76 v77 w78 hH hp79
    obtain ⟨o80, cap81, cs82, rfl, hg, hO83, hfr⟩ := hp79
    replace hH := hH.callown hg hfr
    clear hg hfr
    (try simp only [nf, nh, Value.cells, arrB_set] at hH ⊢)
    (try simp only [nf])
    refine pm ?_;simp only [nf]
    refine pp rfl rfl (pr_extract rfl rfl) ?_;simp only [nf]
    refine pp rfl rfl (pr_extract rfl rfl) ?_;simp only [nf]
    refine pa (pa ?_);simp only [nf]
    refine plan_nil hH ?_
    clear hH
    intro w84 hH
    refine hK67 _ _ ?_
    (try clear hK67 K67)
    refine wp_seq_k ?_
    intro K85 hK85
    refine wp_seq_k ?_
    intro K86 hK86
    refine wrt [.p 0, .p 1, .p 2, .p 3, .p 4, .p 5, .p 6] ?_
    refine pm ?_;simp only [nf]
    refine pp rfl rfl (pr_bin rfl rfl (by first | exact bin_neq_n (n := 0)  | exact bin_neq_i)) ?_;simp only [nf]
    refine plan_p (v := BV false) rfl rfl (pr_move_v rfl) ?_
    (try simp only [nf])
    refine pp rfl rfl pr_move ?_;simp only [nf]
    refine pp rfl rfl (pr_len_sl rfl Tryd.underlying22) ?_;simp only [nf]
    refine pp rfl rfl (pr_bin rfl rfl (by first | exact bin_gtr_n (n := 65000)  | exact bin_gtr_i)) ?_;simp only [nf]
    refine pp rfl rfl (pr_pick_f rfl) ?_;simp only [nf]
    refine plan_nil hH ?_
    clear hH
    intro w87 hH
    refine hK86 _ _ ?_
    (try clear hK86 K86)
    refine wp_cond_false (by show BV _ = _; exact congrArg BV (decide_eq_false (by rw [hrl]; omega))) ?_
    refine wp_skip ?_
    refine hK85 _ _ ?_
    (try clear hK85 K85)
    refine wp_seq_k ?_
    intro K88 hK88
    refine wrt [.p 0, .p 1, .p 2, .p 3, .p 4, .p 5, .p 6, .p 7, .p 8, .p 9] ?_
    refine pm (pm (pm ?_));simp only [nf]
    refine pp rfl rfl (pr_slice_O3 rfl rfl rfl Tryd.underlying22 sz5 (Nat.le_trans (by first | omega | (first | (simp only [hideL_len, List.length_take, List.length_drop] at *; omega) | (rw [hbl]; omega) | (have := lt_u8 ((l.getD 0 0 ^^^ maskF c.data.toList l pn 0) &&& 3); omega))) (OwnC.le hO42))) ?_;simp only [nf]
    refine pm (pm (pa (pa (pa (pka 0 ?_)))));simp only [nf]
    refine plan_nil hH ?_
    clear hH
    intro w89 hH
    refine hK88 _ _ ?_
    (try clear hK88 K88)
    refine wp_ret ?_
    (try simp only [Exit.then, Exit.inBlock, ↓reduceIte, Nat.reduceEqDiff])
    refine BP.ret4 rfl rfl rfl rfl rfl ?_
    have he : openE a b c l (pn : Nat) (en : Nat) = 0 := by
      unfold openE
      rw [if_pos hok, if_pos (by omega), hm, hnm, if_pos hopen]
    simp only [hm, hnm]
    refine ⟨fun _ => ⟨_, _, _, _, _, rfl, hH.pick2 1 7 rfl rfl (by decide), ?_, ?_⟩, fun e h1 h2 => absurd (h1.symm.trans he) h2⟩
    · exact OwnC.cut3 (l := opBare c l pn) (by assumption) (by omega)
    · assumption
   ·
    refine wrp [.p 0, .p 2, .p 4, .p 5, .p 6, .p 7, .p 8, .p 9, .q 1, .x 3, .x 10, .p 11, .p 12, .p 13, .p 14, .p 15] ?_
    refine pm (pm (pm (pm ?_)));simp only [nf]
    refine pp rfl rfl (pr_slice_Sl_h (OwnC.sl hH 1 rfl hO42) rfl rfl Tryd.underlying22 sz5 (by first | omega | (first | (simp only [hideL_len, List.length_take, List.length_drop] at *; omega) | (rw [hbl]; omega) | (have := lt_u8 ((l.getD 0 0 ^^^ maskF c.data.toList l pn 0) &&& 3); omega)))) ?_;simp only [nf]
    refine pm (pm ?_);simp only [nf]
    refine pp rfl rfl (pr_slice_Sl_l (OwnC.sl hH 1 rfl hO42) rfl rfl Tryd.underlying22 sz5 (by first | omega | (first | (simp only [hideL_len, List.length_take, List.length_drop] at *; omega) | (rw [hbl]; omega) | (have := lt_u8 ((l.getD 0 0 ^^^ maskF c.data.toList l pn 0) &&& 3); omega)))) ?_;simp only [nf]
    refine pq rfl rfl (qr_loadW rfl (hH.blk 0 rfl) Tryd.underlying37 rfl sz37 (by simp)) ?_;simp only [nf]
    refine plan_callx rfl rfl hH cf29 (fun w' hH => nonce_calls _ _ _ _ w' hb hnb) rfl (fun _ _ _ h => by obtain ⟨_, _, _, _, hg, _⟩ := h; exact hg) ?_
    clear hH
    intro w90 v91 w92 hH hp93
    obtain ⟨o94, cap95, cs96, rfl, hg, hO97, hfr⟩ := hp93
    replace hH := hH.callown hg hfr
    clear hg hfr
    (try simp only [nf, nh, Value.cells, arrB_set] at hH ⊢)
    (try simp only [nf])
    refine plan_callx rfl rfl hH cf36 (fun w' hH => Open_wrong _ _ _ (hP _) _ _ _ _ _ _ w' (hH.blk 5 rfl) (hH.blk 4 rfl) (OwnC.sl hH 6 rfl hO97) (by rw [nonL_len]; simpa using hb) ((Sl.cuth (OwnC.sl hH 1 rfl hO42) (by first | omega | (first | (simp only [hideL_len, List.length_take, List.length_drop] at *; omega) | (rw [hbl]; omega) | (have := lt_u8 ((l.getD 0 0 ^^^ maskF c.data.toList l pn 0) &&& 3); omega)))).of_eq (show _ = opHead c l pn from rfl)) ((Sl.cutl (OwnC.sl hH 1 rfl hO42) (by first | omega | (first | (simp only [hideL_len, List.length_take, List.length_drop] at *; omega) | (rw [hbl]; omega) | (have := lt_u8 ((l.getD 0 0 ^^^ maskF c.data.toList l pn 0) &&& 3); omega)))).of_eq (show _ = opRest c l pn from rfl)) (by omega) (by omega) hopen) rfl (fun _ _ _ h => h.2) ?_
    clear hH
    intro w98 v99 w100 hH hp101
    obtain ⟨rfl, hg⟩ := hp101
    replace hH := hH.call hg
    clear hg
    (try simp only [nf])
    refine pm ?_;simp only [nf]
    refine pp rfl rfl (pr_extract rfl rfl) ?_;simp only [nf]
    refine pp rfl rfl (pr_extract rfl rfl) ?_;simp only [nf]
    refine pa (pa ?_);simp only [nf]
    refine plan_nil hH ?_
    clear hH
    intro w102 hH
    refine hK67 _ _ ?_
    (try clear hK67 K67)
    refine wp_seq_k ?_
    intro K103 hK103
    refine wp_seq_k ?_
    intro K104 hK104
    refine wrt [.p 0, .p 1, .p 2, .p 3, .p 4, .p 5, .p 6] ?_
    refine pm ?_;simp only [nf]
    refine pp rfl rfl (pr_bin rfl rfl (by first | exact bin_neq_n (n := 0)  | exact bin_neq_i)) ?_;simp only [nf]
    refine plan_p (v := BV true) rfl rfl (pr_move_v rfl) ?_
    (try simp only [nf])
    refine plan_ps rfl rfl ?_
    (try simp only [nf])
    refine plan_ps rfl rfl ?_
    (try simp only [nf])
    refine plan_ps rfl rfl ?_
    (try simp only [nf])
    refine pp rfl rfl (pr_pick_t rfl) ?_;simp only [nf]
    refine plan_nil hH ?_
    clear hH
    intro w105 hH
    refine hK104 _ _ ?_
    (try clear hK104 K104)
    refine wp_cond_true rfl ?_
    refine wp_seq_k ?_
    intro K106 hK106
    refine wrt [.p 0, .p 1, .p 2, .p 3] ?_
    refine pa (pka 0 (pa (pka 4 ?_)));simp only [nf]
    refine plan_nil hH ?_
    clear hH
    intro w107 hH
    refine hK106 _ _ ?_
    (try clear hK106 K106)
    refine wp_ret ?_
    (try simp only [Exit.then, Exit.inBlock, ↓reduceIte, Nat.reduceEqDiff])
    refine BP.ret4 rfl rfl rfl rfl rfl ?_
    have he : openE a b c l (pn : Nat) (en : Nat) = 4 := by
      unfold openE
      rw [if_pos hok, if_pos (by omega), hm, hnm, if_neg hopen]
    exact ⟨fun h => by (rw [he] at h; cases h), fun k h1 _ => by (rw [he] at h1; subst h1; exact ⟨rfl, hH.chg⟩)⟩
end Go.Proofs.YtmoaddicejohgaaDoor
set_option linter.unusedSimpArgs false
set_option linter.unusedVariables false
namespace Go.Proofs.YtmoaddicejohgaaDoor
open Go Go.ChangeShapes Go.WideShapes Go.RowKit
section
variable {H : Type} {enc : TypeId × Value → H} {P : Program}
theorem trodAll_kept (hl : laidOutB P = true) {W W' : World} (hb : Below W.heap.size W W') {sp : Nat → Bool} : ∀ {ts : List TypeId} {vs : List Value} {ds : List (DataW H)} {ps : List MemPlace},
    (ts.all fun t => P.readableRec t && decide (t < P.types.size)) = true → DataW.TrodAll enc P W 0 (fun _ => true) true ts vs ds ps → (∀ x ∈ ps, x.block < W.heap.size) → (∀ x ∈ ps, sp x.block = true) →
      DataW.TrodAll enc P W' 0 sp true ts vs ds ps
  | [], _, _, _, _, h, _, _ => by
    obtain ⟨rfl, rfl, rfl⟩ := trodAll_nil h
    rfl
  | t :: ts, _, _, _, hr, h, hlt, hs => by
    obtain ⟨v, vs1, d, ds1, a, b, rfl, rfl, rfl, h1, h2⟩ := trodAll_cons h
    simp only [List.all_cons, Bool.and_eq_true, decide_eq_true_eq] at hr
    refine ⟨a, b, WideElems.Trod_stays hl hr.1.1 hr.1.2 h1 (fun x hx => hb.same (hlt x (by simp [hx]))) (fun x hx => hs x (by simp [hx])), trodAll_kept hl hb ?_ h2 (fun x hx => hlt x (by simp [hx])) (fun x hx => hs x (by simp [hx])), rfl⟩
    simpa using hr.2
theorem trodVars_nil {w : World} {sp : Nat → Bool} {gs : List (DataW H)} {ps : List MemPlace} (h : DataW.TrodVars enc P w sp [] gs ps) : gs = [] ∧ ps = [] := by
  cases gs with
  | nil => exact ⟨rfl, h⟩
  | cons d ds => simp [DataW.TrodVars] at h
theorem post_of_true {f : Func} {s : ChangeSpec} {apart handsOn again : Bool} {W W' : World} {args : Array Value} {ds gs : List (DataW H)} {before : List MemPlace} {tb : TypeId}
    (hl : laidOutB P = true) (hpar : (f.params.toList.all fun t => P.readableRec t && decide (t < P.types.size)) = true) (hrt : f.resultTypes = #[tb]) (hb : P.underlying tb = some .bool) (hv : s.vars = [])
    (hs : ∀ ds : List (DataW H), ds.length = f.params.toList.length → s.fn H ds = { results := [.lit (.bool true)], args := ds })
    (hW : DataW.Whole enc P f.params.toList s.vars apart W args.toList ds gs before) (hc : Chg [] W W') : s.post enc P f apart true handsOn again W args (BV true) W' := by
  have hlt := hW.lt
  have hW0 := hW
  obtain ⟨p, q, hA, hV, rfl, hz, hn⟩ := hW
  rw [hv] at hV
  obtain ⟨rfl, rfl⟩ := trodVars_nil hV
  have hlen : ds.length = f.params.toList.length := by
    have : ∀ {ts : List TypeId} {vs : List Value} {ds : List (DataW H)} {ps : List MemPlace}, DataW.TrodAll enc P W 0 (fun _ => true) true ts vs ds ps → ds.length = ts.length := by
      intro ts
      induction ts with
      | nil => intro vs ds ps h; obtain ⟨rfl, rfl, rfl⟩ := trodAll_nil h; rfl
      | cons t ts ih =>
        intro vs ds ps h
        obtain ⟨v, vs1, d, ds1, a, b, rfl, rfl, rfl, h1, h2⟩ := trodAll_cons h
        simp [ih h2]
    exact this hA
  have e := hs (ds ++ []) (by simpa using hlen)
  have hbel := hc.below
  have hargs : ∀ sp : Nat → Bool, (∀ x ∈ p ++ [], sp x.block = true) → DataW.TrodAll enc P W' 0 sp true f.params.toList args.toList (s.fn H (ds ++ [])).args p := fun sp hsp => by
    rw [e, List.append_nil]
    exact trodAll_kept hl hbel hpar hA (fun x hx => hlt x (by simp [hx])) (fun x hx => hsp x (by simp [hx]))
  have hres : ∀ (b : Nat) (sp : Nat → Bool) (hd : Bool), DataW.TrodAll enc P W' b sp hd f.resultTypes.toList ((BV true).resultList f.resultTypes.size) (s.fn H (ds ++ [])).results [] := fun b sp hd => by
    rw [e, hrt]
    exact ⟨[], [], shut_bool hb true, rfl, rfl⟩
  have hvars : ∀ sp : Nat → Bool, (∀ x ∈ p ++ [], sp x.block = true) → DataW.TrodVars enc P W' sp s.vars (s.fn H (ds ++ [])).vars [] := fun sp _ => by
    rw [e, hv]; rfl
  have hold : ∀ x ∈ p ++ [], (fun b => decide (b < W.heap.size)) x.block = true := fun x hx => by simpa using hlt x hx
  refine ⟨ds, [], p ++ [], [], p, [], hW0, hres _ _ _, hargs _ hold, hvars _ hold, World.keptBut_mono (fun x hx => ⟨hx, ?_⟩) (hbel.frame (· ∈ p ++ [])), fun _ => ?_⟩
  · rw [List.mem_append] at hx
    exact Or.inr hx
  · refine ⟨ok_one hrt rfl (okWide_bool_mk hb true), _, _, ([] ++ p) ++ [], ⟨[] ++ p, [], trodAll_append (hargs _ (fun _ _ => rfl)) (hres _ _ _), hvars _ (fun _ _ => rfl), rfl, ?_, ?_⟩, ?_⟩
    · intro b off hp
      have hb' : b < W.heap.size := hlt (.cell b off) (by simpa using hp)
      rw [hbel.frozen (p := ⟨b, off, none⟩) hb']
      exact hz b off (by simpa using hp)
    · intro ha
      simpa using hn ha
    · intro x hx _
      simpa using hx
end
section
variable {H : Type} {enc : TypeId × Value → H} {P : Program} {w : World} {base : Nat} {spare : Nat → Bool} {held : Bool}
theorem trod_field {t : TypeId} {fuel : Nat} {cs : List Value} {x : DataW H × List MemPlace} {fs : Array Field} (hu : P.underlying t = some (.struct fs)) (h : DataW.trod enc P w base spare held fuel t cs = some x)
    (i : Nat) {ft off m : Nat} (hf : (fs[i]?).map (fun f => (f.type, f.offset)) = some (ft, off)) (hm : szc P ft = some m) : ∃ y n, DataW.trod enc P w base spare held n ft ((cs.drop off).take m) = some y := by
  obtain ⟨xs, n, _, _, _, hl, hall⟩ := DataW.trod_struct hu h
  obtain ⟨f, hf1, hf2⟩ := Option.map_eq_some_iff.1 hf
  cases hf2
  have hc : P.cellsOf f.type = m := by unfold szc at hm; unfold Program.cellsOf; rw [hm]; rfl
  have hi := (Array.getElem?_eq_some_iff.1 hf1).1
  have := hall i f hf1
  rw [hc, List.getElem?_eq_getElem (by omega)] at this
  exact ⟨_, n, this⟩
end
end Go.Proofs.YtmoaddicejohgaaDoor
set_option linter.unusedSimpArgs false
set_option linter.unusedVariables false
namespace Go.Proofs.YtmoaddicejohgaaDoor
open Go Go.ChangeShapes Go.WideShapes Go.RowKit
section
variable {P : Program} {ops : List Oper} {Q : Exit → Act → World → Prop} {r : List PStep} {a : Act} {w : World} {i : Nat} {d : Option Tmp} {ty : TypeId} {pos : String} {af : Array Edge} {g : Option (Nat × Bool)} {x y : Operand} {t t' T : TypeId}
  {S : List Nat} {w0 : World} {L : List Own}
end
theorem weightsEach_at {H : Type} {P : Program} {p : Nat → Bool} : ∀ {ts : List TypeId} {ds : List (DataW H)}, (DataW.weightsEach P ts ds).all p = true → ∀ (i : Nat) (t : TypeId) (d : DataW H), ts[i]? = some t → ds[i]? = some d → (d.weights P t).all p = true
  | [], _, _, i, t, d, h1, _ => by simp at h1
  | _ :: _, [], _, i, t, d, _, h2 => by simp at h2
  | t0 :: ts, d0 :: ds, h, i, t, d, h1, h2 => by
    simp only [DataW.weightsEach, List.all_append, Bool.and_eq_true] at h
    cases i with
    | zero => simp at h1 h2; subst h1; subst h2; exact h.1
    | succ i => exact weightsEach_at h.2 i t d (by simpa using h1) (by simpa using h2)
section
variable {H : Type} {enc : TypeId × Value → H} {P : Program} {w : World} {base : Nat} {spare : Nat → Bool} {held : Bool}
end
end Go.Proofs.YtmoaddicejohgaaDoor
set_option linter.unusedSimpArgs false
set_option linter.unusedVariables false
set_option maxRecDepth 100000
set_option maxHeartbeats 4000000
namespace Go.Proofs.YtmoaddicejohgaaDoor
open Go
open List (getD_cons_zero getD_cons_succ set_cons_zero set_cons_succ)
theorem sealed_take (K : Nat → UInt8) (h : P2) (nl al bl : List UInt8) : (sealedL K h nl al bl).take ((sealedL K h nl al bl).length - 16) = hidL K nl bl := by
  rw [sealedL_len, Nat.add_sub_cancel]
  unfold sealedL
  rw [List.take_append_of_le_length (by rw [hidL_len]; exact Nat.le_refl _), List.take_of_length_le (by rw [hidL_len]; exact Nat.le_refl _)]
theorem sealed_drop (K : Nat → UInt8) (h : P2) (nl al bl : List UInt8) : (sealedL K h nl al bl).drop ((sealedL K h nl al bl).length - 16) = sealL K h nl al (hidL K nl bl) := by
  rw [sealedL_len, Nat.add_sub_cancel]
  unfold sealedL
  rw [List.drop_append_of_le_length (by rw [hidL_len]; exact Nat.le_refl _), List.drop_eq_nil_of_le (by rw [hidL_len]; exact Nat.le_refl _), List.nil_append]
theorem hid_twice (K : Nat → UInt8) (nl bl : List UInt8) : hidL K nl (hidL K nl bl) = bl := by
  unfold hidL
  rw [strm_len]; exact strm_twice _ _ _ _
end Go.Proofs.YtmoaddicejohgaaDoor
set_option linter.unusedSimpArgs false
set_option linter.unusedVariables false
set_option maxRecDepth 100000
set_option maxHeartbeats 4000000
namespace Go.Proofs.YtmoaddicejohgaaDoor
open Go
open List (getD_cons_zero getD_cons_succ set_cons_zero set_cons_succ)
theorem set_getD (l : List UInt8) (j : Nat) (v : UInt8) (i : Nat) (hj : j < l.length) : (l.set j v).getD i 0 = if i = j then v else l.getD i 0 := by
  simp only [List.getD, List.getElem?_set]
  by_cases h : j = i
  · subst h; rw [if_pos rfl, if_pos rfl, if_pos hj]; rfl
  · rw [if_neg h, if_neg (fun e => h e.symm)]
end Go.Proofs.YtmoaddicejohgaaDoor
set_option linter.unusedSimpArgs false
set_option linter.unusedVariables false
set_option maxRecDepth 100000
set_option maxHeartbeats 4000000
namespace Go.Proofs.YtmoaddicejohgaaDoor
open Go
open List (getD_cons_zero getD_cons_succ set_cons_zero set_cons_succ)
theorem getD_ext {l l' : List UInt8} (h : l.length = l'.length) (he : ∀ i, i < l.length → l.getD i 0 = l'.getD i 0) : l = l' := by
  apply List.ext_getElem h
  intro i h1 h2
  have := he i h1
  simpa [List.getD, h1, h2] using this
theorem hideL_at (l ml : List UInt8) (p : Nat) (hp : 1 ≤ p) : ∀ n i, p + n ≤ l.length → (hideL l ml p n).getD i 0 = if i = 0 then l.getD 0 0 ^^^ ml.getD 0 0 else if p ≤ i ∧ i < p + n then l.getD i 0 ^^^ ml.getD (1 + (i - p)) 0 else l.getD i 0
  | 0, i, h => by
    unfold hideL
    rw [set_getD _ _ _ _ (by omega)]
    by_cases h0 : i = 0
    · rw [if_pos h0, if_pos h0]
    · rw [if_neg h0, if_neg h0, if_neg (by omega)]
  | n + 1, i, h => by
    unfold hideL
    rw [set_getD _ _ _ _ (by rw [hideL_len]; omega), hideL_at l ml p hp n i (by omega), hideL_at l ml p hp n (p + n) (by omega)]
    by_cases h0 : i = p + n
    · subst h0
      rw [if_pos rfl, if_neg (by omega), if_neg (by omega), if_neg (by omega), if_pos (by omega), show p + n - p = n by omega]
    · rw [if_neg h0]
      by_cases h1 : i = 0
      · rw [if_pos h1, if_pos h1]
      · rw [if_neg h1, if_neg h1]
        by_cases h2 : p ≤ i ∧ i < p + n
        · rw [if_pos h2, if_pos (by omega)]
        · rw [if_neg h2, if_neg (by omega)]
theorem samp_getD (l : List UInt8) (p i : Nat) : (sampL l p).getD i 0 = if i < 16 then l.getD (p + 4 + i) 0 else 0 := by
  unfold sampL
  simp only [List.getD, List.getElem?_take, List.getElem?_drop]
  split <;> rfl
theorem maskL_congr {K l l' : List UInt8} {p : Nat} (h0 : l.getD 0 0 &&& 128 = l'.getD 0 0 &&& 128) (hs : ∀ i, i < 16 → l.getD (p + 4 + i) 0 = l'.getD (p + 4 + i) 0) : maskL K l p = maskL K l' p := by
  have e : (fun i => (sampL l p).getD i 0) = fun i => (sampL l' p).getD i 0 := funext fun i => by
    rw [samp_getD, samp_getD]
    by_cases h : i < 16
    · rw [if_pos h, if_pos h, hs i h]
    · rw [if_neg h, if_neg h]
  unfold maskL maskF maskR
  rw [e, h0]
theorem u8_and_xor (a b c : UInt8) : (a &&& c) ^^^ (b &&& c) = (a ^^^ b) &&& c := by
  apply UInt8.toNat_inj.1
  apply Nat.eq_of_testBit_eq
  intro i
  simp only [UInt8.toNat_xor, UInt8.toNat_and, Nat.testBit_xor, Nat.testBit_and]
  cases a.toNat.testBit i <;> cases b.toNat.testBit i <;> cases c.toNat.testBit i <;> rfl
theorem mask_top (K l : List UInt8) (p : Nat) (x : UInt8) : (x ^^^ (maskL K l p).getD 0 0) &&& 128 = x &&& 128 := by
  rw [mask_head]
  have h1 : ∀ m : UInt8, (x ^^^ (m &&& 15)) &&& 128 = x &&& 128 := fun m => by
    rw [← u8_and_xor, UInt8.and_assoc, show (15 : UInt8) &&& 128 = 0 from rfl, UInt8.and_zero, UInt8.xor_zero]
  have h2 : ∀ m : UInt8, (x ^^^ (m &&& 31)) &&& 128 = x &&& 128 := fun m => by
    rw [← u8_and_xor, UInt8.and_assoc, show (31 : UInt8) &&& 128 = 0 from rfl, UInt8.and_zero, UInt8.xor_zero]
  split
  · exact h1 _
  · exact h2 _
theorem whole_back (nu e sz : Nat) (h1 : 1 ≤ sz) (h4 : sz ≤ 4) (hn : nu ≤ 4611686018427387903) (hlo : e ≤ nu + 2 ^ (8 * sz) / 4) (hhi : nu ≤ e + 2 ^ (8 * sz) / 4) : wholeN (nu % 2 ^ (8 * sz)) sz e = nu := by
  obtain ⟨hw1, hw2, hw3⟩ := pow_size sz h1 h4
  unfold wholeN
  generalize 2 ^ (8 * sz) = W at *
  have hB := Nat.div_add_mod nu W
  have hA := Nat.div_add_mod e W
  have hml := Nat.mod_lt nu (show 0 < W by omega)
  have hme := Nat.mod_lt e (show 0 < W by omega)
  rw [Nat.mul_comm] at hB hA
  have ha : e / W * W + e % W = e := hA
  have hb : nu / W * W + nu % W = nu := hB
  have hge : nu / W + 2 ≤ e / W → False := fun h => by
    have := Nat.mul_le_mul_right W h
    rw [Nat.add_mul] at this; omega
  have hle : e / W + 2 ≤ nu / W → False := fun h => by
    have := Nat.mul_le_mul_right W h
    rw [Nat.add_mul] at this; omega
  rcases Nat.lt_trichotomy (e / W) (nu / W) with h | h | h
  · have hq : nu / W = e / W + 1 := by
      rcases Nat.lt_or_ge (nu / W) (e / W + 2) with h2 | h2
      · omega
      · exact (hle h2).elim
    rw [hq, Nat.add_mul, Nat.one_mul] at hb
    rw [if_pos (by omega)]; omega
  · rw [h] at ha ⊢
    rw [if_neg (by omega), if_neg (by omega)]; omega
  · have hq : e / W = nu / W + 1 := by
      rcases Nat.lt_or_ge (e / W) (nu / W + 2) with h2 | h2
      · omega
      · exact (hge h2).elim
    rw [hq, Nat.add_mul, Nat.one_mul] at ha ⊢
    rw [if_neg (by omega), if_pos (by omega)]; omega
theorem sealE_ok {a b c : ByteArray} {hl : List UInt8} {size number : Int} {cn : Nat} (h : sealE a b c hl size number cn = 0) :
    1 ≤ size ∧ size ≤ 4 ∧ 0 ≤ number ∧ number ≤ 4611686018427387903 ∧ rightB a b c = true ∧ size + 1 ≤ hl.length ∧ (hl.getD 0 0).toNat % 4 = size.toNat - 1 ∧ lowN (hl.drop (hl.length - size.toNat)) size.toNat = number.toNat % 2 ^ (8 * size.toNat) ∧ 4 ≤ cn + size.toNat ∧ cn ≤ 65000 := by
  unfold sealE at h
  split at h
  · rename_i h1
    obtain ⟨a1, a2, a3, a4, a5, a6⟩ := h1
    split at h
    · rename_i h2
      split at h
      · cases h
      · split at h
        · cases h
        · exact ⟨a1, a2, a3, a4, a5, a6, h2.1, h2.2, by omega, by omega⟩
    · cases h
  · cases h
theorem app_l (a b : List UInt8) {i : Nat} (h : i < a.length) : (a ++ b).getD i 0 = a.getD i 0 := by simp only [List.getD, List.getElem?_append, h, if_true]
theorem xor8_twice (a b : UInt8) : a ^^^ b ^^^ b = a := by rw [UInt8.xor_assoc, UInt8.xor_self, UInt8.xor_zero]
section
variable {a b c : ByteArray} {hl cl : List UInt8} {sz nu : Nat}
structure Back (a b c : ByteArray) (hl cl : List UInt8) (sz nu : Nat) : Prop where
  s1 : 1 ≤ sz
  s4 : sz ≤ 4
  nb : nu ≤ 4611686018427387903
  rb : rightB a b c = true
  hl1 : sz + 1 ≤ hl.length
  first : (hl.getD 0 0).toNat % 4 = sz - 1
  low : lowN (hl.drop (hl.length - sz)) sz = nu % 2 ^ (8 * sz)
  tail : 4 ≤ cl.length + sz
theorem Back.of (h : sealE a b c hl (sz : Nat) (nu : Nat) cl.length = 0) : Back a b c hl cl sz nu := by
  obtain ⟨a1, a2, a3, a4, a5, a6, a7, a8, a9, a10⟩ := sealE_ok h
  have hm : ((sz : Nat) : Int).toNat = sz := by omega
  have hnm : ((nu : Nat) : Int).toNat = nu := by omega
  rw [hm] at a7 a8 a9
  rw [hnm] at a8
  exact ⟨by omega, by omega, by omega, a5, by omega, a7, a8, a9⟩
theorem Back.len (h : Back a b c hl cl sz nu) : hl.length - sz + 20 ≤ (sealOut a b c hl sz nu cl).length := by
  rw [sealOut_len]; have := h.hl1; have := h.tail; omega
theorem Back.at_ (h : Back a b c hl cl sz nu) (i : Nat) : (sealOut a b c hl sz nu cl).getD i 0 = if i = 0 then (sealBody a b hl nu cl).getD 0 0 ^^^ (maskL c.data.toList (sealBody a b hl nu cl) (hl.length - sz)).getD 0 0 else if hl.length - sz ≤ i ∧ i < hl.length - sz + sz then (sealBody a b hl nu cl).getD i 0 ^^^ (maskL c.data.toList (sealBody a b hl nu cl) (hl.length - sz)).getD (1 + (i - (hl.length - sz))) 0 else (sealBody a b hl nu cl).getD i 0 :=
  hideL_at _ _ _ (by have := h.hl1; omega) sz i (by rw [sealBody_len]; have := h.hl1; omega)
theorem Back.mask (h : Back a b c hl cl sz nu) : maskL c.data.toList (sealOut a b c hl sz nu cl) (hl.length - sz) = maskL c.data.toList (sealBody a b hl nu cl) (hl.length - sz) := by
  refine maskL_congr ?_ fun i hi => ?_
  · rw [h.at_ 0, if_pos rfl, mask_top]
  · rw [h.at_, if_neg (by omega), if_neg (by have := h.s4; have := h.hl1; omega)]
theorem Back.head0 (h : Back a b c hl cl sz nu) : (sealBody a b hl nu cl).getD 0 0 = hl.getD 0 0 := app_l _ _ (by have := h.hl1; omega)
theorem Back.size (h : Back a b c hl cl sz nu) : opSz c (sealOut a b c hl sz nu cl) (hl.length - sz) = sz := by
  unfold opSz
  rw [h.mask, h.at_ 0, if_pos rfl, xor8_twice, u8_and3, h.head0, h.first]
  have := h.s1; omega
theorem Back.bare (h : Back a b c hl cl sz nu) : opBare c (sealOut a b c hl sz nu cl) (hl.length - sz) = sealBody a b hl nu cl := by
  have hh := h.hl1
  unfold opBare
  rw [h.size, h.mask]
  refine getD_ext (by rw [hideL_len, sealOut_len, sealBody_len]) fun i hi => ?_
  rw [hideL_at _ _ _ (by omega) _ _ (by rw [sealOut_len]; omega), h.at_ i, h.at_ 0, if_pos rfl]
  by_cases h0 : i = 0
  · rw [if_pos h0, xor8_twice, h0]
  · rw [if_neg h0, if_neg h0]
    by_cases h1 : hl.length - sz ≤ i ∧ i < hl.length - sz + sz
    · rw [if_pos h1, if_pos h1, xor8_twice]
    · rw [if_neg h1, if_neg h1]
theorem lowN_congr {l l' : List UInt8} : ∀ n, (∀ i, i < n → l.getD i 0 = l'.getD i 0) → lowN l n = lowN l' n
  | 0, _ => rfl
  | n + 1, h => by rw [lowN_succ, lowN_succ, lowN_congr n fun i hi => h i (by omega), h n (by omega)]
theorem low_body (hl x : List UInt8) (sz : Nat) (h : sz ≤ hl.length) : lowN ((hl ++ x).drop (hl.length - sz)) sz = lowN (hl.drop (hl.length - sz)) sz :=
  lowN_congr sz fun i hi => by
    simp only [List.getD, List.getElem?_drop, List.getElem?_append]
    rw [if_pos (by omega)]
theorem Back.num (h : Back a b c hl cl sz nu) {e : Nat} (hlo : e ≤ nu + 2 ^ (8 * sz) / 4) (hhi : nu ≤ e + 2 ^ (8 * sz) / 4) : opNum c (sealOut a b c hl sz nu cl) (hl.length - sz) e = nu := by
  have hh := h.hl1
  unfold opNum
  rw [h.size, h.bare]
  unfold sealBody
  rw [low_body _ _ _ (by omega), h.low]
  exact whole_back nu e sz h.s1 h.s4 h.nb hlo hhi
theorem Back.head (h : Back a b c hl cl sz nu) : opHead c (sealOut a b c hl sz nu cl) (hl.length - sz) = hl := by
  have hh := h.hl1
  unfold opHead
  rw [h.size, h.bare, show hl.length - sz + sz = hl.length by omega]
  unfold sealBody
  exact List.take_left' rfl
theorem Back.rest (h : Back a b c hl cl sz nu) : opRest c (sealOut a b c hl sz nu cl) (hl.length - sz) = sealedL (keyF16 a) (hP (keyF16 a)) (nonL b.data.toList nu 8) hl cl := by
  have hh := h.hl1
  unfold opRest
  rw [h.size, h.bare, show hl.length - sz + sz = hl.length by omega]
  unfold sealBody
  exact List.drop_left' rfl
theorem Back.ok (h : Back a b c hl cl sz nu) {e : Nat} (hlo : e ≤ nu + 2 ^ (8 * sz) / 4) (hhi : nu ≤ e + 2 ^ (8 * sz) / 4) : opOk a b c (sealOut a b c hl sz nu cl) (hl.length - sz) e := by
  unfold opOk opBody
  rw [h.num hlo hhi, h.head, h.rest, sealed_take, sealed_drop]
theorem Back.out (h : Back a b c hl cl sz nu) {e : Nat} (hlo : e ≤ nu + 2 ^ (8 * sz) / 4) (hhi : nu ≤ e + 2 ^ (8 * sz) / 4) : opOut a b c (sealOut a b c hl sz nu cl) (hl.length - sz) e = cl := by
  unfold opOut opBody
  rw [h.num hlo hhi, h.rest, sealed_take, hid_twice]
theorem Back.openE (h : Back a b c hl cl sz nu) {e : Nat} (he : e ≤ 4611686018427387903) (hlo : e ≤ nu + 2 ^ (8 * sz) / 4) (hhi : nu ≤ e + 2 ^ (8 * sz) / 4) : openE a b c (sealOut a b c hl sz nu cl) ((hl.length - sz : Nat) : Int) (e : Nat) = 0 := by
  have hh := h.hl1
  have hlen := h.len
  unfold Go.Proofs.YtmoaddicejohgaaDoor.openE
  rw [if_pos ⟨by omega, by omega, by omega, h.rb⟩, if_pos (by omega), show (((hl.length - sz : Nat) : Int)).toNat = hl.length - sz by omega, show ((e : Nat) : Int).toNat = e by omega, if_pos (h.ok hlo hhi)]
variable {k : Nat} {x : UInt8}
end
end Go.Proofs.YtmoaddicejohgaaDoor
set_option linter.unusedSimpArgs false
set_option linter.unusedVariables false
set_option maxRecDepth 100000
set_option maxHeartbeats 4000000
namespace Go.Proofs.YtmoaddicejohgaaDoor
open Go
open List (getD_cons_zero getD_cons_succ set_cons_zero set_cons_succ)
def stepF (s : Nat → UInt32) (k x : UInt32) (j : Nat) : UInt32 := if j = 0 then shaT s k x + (shaU s + shaM s) else if j = 4 then s 3 + shaT s k x else s (j - 1)
theorem stepF_congr {s s' : Nat → UInt32} (h : ∀ i, i < 8 → s i = s' i) (k x : UInt32) {j : Nat} (hj : j < 8) : stepF s k x j = stepF s' k x j := by
  unfold stepF shaT shaU shaM
  rw [h 0 (by omega), h 1 (by omega), h 2 (by omega), h 3 (by omega), h 4 (by omega), h 5 (by omega), h 6 (by omega), h 7 (by omega), h (j - 1) (by omega)]
theorem shaR_is (r w : Nat → UInt32) (W : List UInt32) (T : List (List UInt32)) (hW : ∀ n, n < 64 → w n = W.getD n 0) (h0 : ∀ j, j < 8 → r j = (T.getD 0 []).getD j 0)
    (hs : ((List.range 64).all fun n => (List.range 8).all fun j => stepF (fun i => (T.getD n []).getD i 0) (shaK n) (W.getD n 0) j == (T.getD (n + 1) []).getD j 0) = true) :
    ∀ n, n ≤ 64 → ∀ j, j < 8 → shaR r w n j = (T.getD n []).getD j 0
  | 0, _, j, hj => h0 j hj
  | n + 1, hn, j, hj => by
    have ih := shaR_is r w W T hW h0 hs n (by omega)
    have e : shaR r w (n + 1) j = stepF (shaR r w n) (shaK n) (w n) j := rfl
    rw [e, stepF_congr ih _ _ hj, hW n (by omega)]
    have h1 := List.all_eq_true.1 hs n (List.mem_range.2 (by omega))
    exact eq_of_beq (List.all_eq_true.1 h1 j (List.mem_range.2 hj))
theorem shaW_is (p : Nat → UInt8) (Q : List UInt8) (W : List UInt32) (hp : ∀ i, i < 64 → p i = Q.getD i 0)
    (hs : ((List.range 64).all fun n => (if n < 16 then shaWord (fun i => Q.getD i 0) n else W.getD (n - 16) 0 + (rotF (W.getD (n - 15) 0) (-7) ^^^ rotF (W.getD (n - 15) 0) (-18) ^^^ W.getD (n - 15) 0 >>> 3) + W.getD (n - 7) 0 + (rotF (W.getD (n - 2) 0) (-17) ^^^ rotF (W.getD (n - 2) 0) (-19) ^^^ W.getD (n - 2) 0 >>> 10)) == W.getD n 0) = true) :
    ∀ n, n < 64 → shaW p n = W.getD n 0 := by
  intro n
  induction n using Nat.strongRecOn with
  | ind n ih =>
    intro hn
    have h1 := eq_of_beq (List.all_eq_true.1 hs n (List.mem_range.2 hn))
    by_cases h16 : n < 16
    · rw [if_pos h16] at h1
      rw [shaW_lo _ h16, ← h1]
      unfold shaWord
      rw [hp _ (by omega), hp _ (by omega), hp _ (by omega), hp _ (by omega)]
    · rw [if_neg h16] at h1
      rw [shaW_hi _ h16, ih _ (by omega) (by omega), ih _ (by omega) (by omega), ih _ (by omega) (by omega), ih _ (by omega) (by omega), h1]
theorem shaB_is (r : Nat → UInt32) (p : Nat → UInt8) (Q : List UInt8) (W F : List UInt32) (T : List (List UInt32)) (hp : ∀ i, i < 64 → p i = Q.getD i 0) (h0 : ∀ j, j < 8 → r j = (T.getD 0 []).getD j 0)
    (hw : ((List.range 64).all fun n => (if n < 16 then shaWord (fun i => Q.getD i 0) n else W.getD (n - 16) 0 + (rotF (W.getD (n - 15) 0) (-7) ^^^ rotF (W.getD (n - 15) 0) (-18) ^^^ W.getD (n - 15) 0 >>> 3) + W.getD (n - 7) 0 + (rotF (W.getD (n - 2) 0) (-17) ^^^ rotF (W.getD (n - 2) 0) (-19) ^^^ W.getD (n - 2) 0 >>> 10)) == W.getD n 0) = true)
    (hs : ((List.range 64).all fun n => (List.range 8).all fun j => stepF (fun i => (T.getD n []).getD i 0) (shaK n) (W.getD n 0) j == (T.getD (n + 1) []).getD j 0) = true)
    (hf : ((List.range 8).all fun j => (T.getD 0 []).getD j 0 + (T.getD 64 []).getD j 0 == F.getD j 0) = true) : ∀ j, j < 8 → shaB r p j = F.getD j 0 := fun j hj => by
  unfold shaB
  rw [h0 j hj, shaR_is r _ W T (shaW_is p Q W hp hw) h0 hs 64 (Nat.le_refl _) j hj]
  exact eq_of_beq (List.all_eq_true.1 hf j (List.mem_range.2 hj))
theorem shaD_two (l PL : List UInt8) (R D : List UInt8) (F1 F2 : List UInt32) (hP : shaPad l = PL) (hl : PL.length / 64 = 2)
    (h1 : ∀ j, j < 8 → shaB shaH (fun i => PL.getD (64 * 0 + i) 0) j = F1.getD j 0) (h2 : ∀ r : Nat → UInt32, (∀ j, j < 8 → r j = F1.getD j 0) → ∀ j, j < 8 → shaB r (fun i => PL.getD (64 * 1 + i) 0) j = F2.getD j 0)
    (hd : ((List.range 32).map fun i => (if 24 - 8 * (i % 4) < 32 then F2.getD (i / 4) 0 >>> UInt32.ofNat (24 - 8 * (i % 4)) else 0).toUInt8) = D) : (List.range 32).map (shaD l) = D := by
  rw [← hd]
  refine List.map_congr_left fun i hi => ?_
  have hi := List.mem_range.1 hi
  unfold shaD
  rw [hP, hl]
  have e : shaReg PL 2 (i / 4) = F2.getD (i / 4) 0 := h2 _ h1 (i / 4) (by omega)
  rw [e]
def sP0 : List UInt8 := [14, 64, 26, 193, 195, 111, 2, 133, 123, 33, 172, 208, 146, 254, 58, 155, 250, 141, 73, 60, 54, 54, 54, 54, 54, 54, 54, 54, 54, 54, 54, 54, 54, 54, 54, 54, 54, 54, 54, 54, 54, 54, 54, 54, 54, 54, 54, 54, 54, 54, 54, 54, 54, 54, 54, 54, 54, 54, 54, 54, 54, 54, 54, 54, 131, 148, 200, 240, 62, 81, 87, 8, 128, 0, 0, 0, 0, 0, 0, 0, 0, 0, 0, 0, 0, 0, 0, 0, 0, 0, 0, 0, 0, 0, 0, 0, 0, 0, 0, 0, 0, 0, 0, 0, 0, 0, 0, 0, 0, 0, 0, 0, 0, 0, 0, 0, 0, 0, 0, 0, 0, 0, 0, 0, 0, 0, 2, 64]
def sW0 : List UInt32 := [239082177, 3278832261, 2065804496, 2466134683, 4203563324, 909522486, 909522486, 909522486, 909522486, 909522486, 909522486, 909522486, 909522486, 909522486, 909522486, 909522486, 4119916501, 2619076886, 3345081056, 2226035033, 3842525629, 4080692471, 2170789834, 2395477651, 1974834925, 4000793845, 465727423, 1296399934, 2328258646, 2945235836, 2770901393, 93466493, 115003303, 2886301190, 1486431573, 442623085, 3043486680, 3388789035, 3272627833, 973884876, 1790027900, 3707868022, 1108156154, 619266757, 1139263867, 224086521, 1847408815, 994310058, 1687082958, 1547460602, 3471703898, 1603221611, 2115980701, 2982382713, 3657270499, 4124512455, 3432085278, 3518049734, 358721235, 1662932299, 4281443171, 3835768888, 4174056790, 3953333189]
def sX0 : List UInt32 := [2207566064, 1045518088, 2147483648, 0, 0, 0, 0, 0, 0, 0, 0, 0, 0, 0, 0, 576, 3322499275, 1354331912, 38607249, 2507213846, 804925993, 2813117525, 1599753934, 3230850269, 3210914269, 940742269, 2540420365, 1241084375, 1353672716, 4129129069, 2587256513, 204027908, 1160684333, 122698630, 1319777224, 3690825037, 341172619, 3103997832, 3441005232, 79858472, 450713749, 2184036769, 1990257252, 2144040319, 399162400, 2701753974, 4029113366, 2999529467, 672611183, 1171866900, 719412074, 3938644058, 98736201, 3957091928, 2439738073, 1728232761, 1525924137, 3000090121, 644103500, 1551249459, 1135333081, 4217300939, 2694045620, 3530049983]
def sT0 : List (List UInt32) := [[1779033703, 3144134277, 1013904242, 2773480762, 1359893119, 2600822924, 528734635, 1541459225], [172532494, 1779033703, 3144134277, 1013904242, 2802318691, 1359893119, 2600822924, 528734635], [4043221311, 172532494, 1779033703, 3144134277, 1253422075, 2802318691, 1359893119, 2600822924], [1631581718, 4043221311, 172532494, 1779033703, 1660563187, 1253422075, 2802318691, 1359893119], [1007451165, 1631581718, 4043221311, 172532494, 1853034856, 1660563187, 1253422075, 2802318691], [24701360, 1007451165, 1631581718, 4043221311, 4251452683, 1853034856, 1660563187, 1253422075], [1410178758, 24701360, 1007451165, 1631581718, 1968593475, 4251452683, 1853034856, 1660563187], [46110257, 1410178758, 24701360, 1007451165, 4205293862, 1968593475, 4251452683, 1853034856], [3250448119, 46110257, 1410178758, 24701360, 3993866218, 4205293862, 1968593475, 4251452683], [3358063680, 3250448119, 46110257, 1410178758, 1486398373, 3993866218, 4205293862, 1968593475], [1721161170, 3358063680, 3250448119, 46110257, 2850406680, 1486398373, 3993866218, 4205293862], [2214846990, 1721161170, 3358063680, 3250448119, 1504295701, 2850406680, 1486398373, 3993866218], [3910579672, 2214846990, 1721161170, 3358063680, 667928065, 1504295701, 2850406680, 1486398373], [1627127068, 3910579672, 2214846990, 1721161170, 1991736603, 667928065, 1504295701, 2850406680], [617772072, 1627127068, 3910579672, 2214846990, 2351680451, 1991736603, 667928065, 1504295701], [4190118055, 617772072, 1627127068, 3910579672, 994833043, 2351680451, 1991736603, 667928065], [2222234202, 4190118055, 617772072, 1627127068, 283869751, 994833043, 2351680451, 1991736603], [587262657, 2222234202, 4190118055, 617772072, 1032603792, 283869751, 994833043, 2351680451], [2118799397, 587262657, 2222234202, 4190118055, 3833197391, 1032603792, 283869751, 994833043], [3486077005, 2118799397, 587262657, 2222234202, 2874057489, 3833197391, 1032603792, 283869751], [912192021, 3486077005, 2118799397, 587262657, 1991122628, 2874057489, 3833197391, 1032603792], [3061406714, 912192021, 3486077005, 2118799397, 3023674379, 1991122628, 2874057489, 3833197391], [1652353763, 3061406714, 912192021, 3486077005, 2471090366, 3023674379, 1991122628, 2874057489], [2050112474, 1652353763, 3061406714, 912192021, 2538531934, 2471090366, 3023674379, 1991122628], [2181842432, 2050112474, 1652353763, 3061406714, 3175253388, 2538531934, 2471090366, 3023674379], [4285870924, 2181842432, 2050112474, 1652353763, 840114330, 3175253388, 2538531934, 2471090366], [3171658938, 4285870924, 2181842432, 2050112474, 3017596878, 840114330, 3175253388, 2538531934], [1909490619, 3171658938, 4285870924, 2181842432, 1221570566, 3017596878, 840114330, 3175253388], [4225965992, 1909490619, 3171658938, 4285870924, 4244405825, 1221570566, 3017596878, 840114330], [3405701072, 4225965992, 1909490619, 3171658938, 2163132485, 4244405825, 1221570566, 3017596878], [2668588013, 3405701072, 4225965992, 1909490619, 685888966, 2163132485, 4244405825, 1221570566], [2067530890, 2668588013, 3405701072, 4225965992, 203199329, 685888966, 2163132485, 4244405825], [2881499832, 2067530890, 2668588013, 3405701072, 2178290026, 203199329, 685888966, 2163132485], [3206685380, 2881499832, 2067530890, 2668588013, 253046764, 2178290026, 203199329, 685888966], [936625262, 3206685380, 2881499832, 2067530890, 1784457847, 253046764, 2178290026, 203199329], [2615181037, 936625262, 3206685380, 2881499832, 1975871793, 1784457847, 253046764, 2178290026], [727926109, 2615181037, 936625262, 3206685380, 114399826, 1975871793, 1784457847, 253046764], [703836147, 727926109, 2615181037, 936625262, 3222114154, 114399826, 1975871793, 1784457847], [3361918047, 703836147, 727926109, 2615181037, 1492695050, 3222114154, 114399826, 1975871793], [2589091980, 3361918047, 703836147, 727926109, 4042754810, 1492695050, 3222114154, 114399826], [2808530695, 2589091980, 3361918047, 703836147, 520397996, 4042754810, 1492695050, 3222114154], [2609167795, 2808530695, 2589091980, 3361918047, 4028435757, 520397996, 4042754810, 1492695050], [3234219236, 2609167795, 2808530695, 2589091980, 3562464917, 4028435757, 520397996, 4042754810], [281517804, 3234219236, 2609167795, 2808530695, 424623561, 3562464917, 4028435757, 520397996], [3027942909, 281517804, 3234219236, 2609167795, 3723499100, 424623561, 3562464917, 4028435757], [1485937446, 3027942909, 281517804, 3234219236, 4215980402, 3723499100, 424623561, 3562464917], [3971041726, 1485937446, 3027942909, 281517804, 2468983695, 4215980402, 3723499100, 424623561], [1734974357, 3971041726, 1485937446, 3027942909, 1199690860, 2468983695, 4215980402, 3723499100], [1899472070, 1734974357, 3971041726, 1485937446, 2514599641, 1199690860, 2468983695, 4215980402], [2564901000, 1899472070, 1734974357, 3971041726, 659808464, 2514599641, 1199690860, 2468983695], [2676572744, 2564901000, 1899472070, 1734974357, 863652919, 659808464, 2514599641, 1199690860], [1995090744, 2676572744, 2564901000, 1899472070, 872642399, 863652919, 659808464, 2514599641], [2176901377, 1995090744, 2676572744, 2564901000, 1698250623, 872642399, 863652919, 659808464], [2809905711, 2176901377, 1995090744, 2676572744, 1016854383, 1698250623, 872642399, 863652919], [884235943, 2809905711, 2176901377, 1995090744, 346507262, 1016854383, 1698250623, 872642399], [3268161021, 884235943, 2809905711, 2176901377, 2857887797, 346507262, 1016854383, 1698250623], [2862440451, 3268161021, 884235943, 2809905711, 1433864256, 2857887797, 346507262, 1016854383], [1933968139, 2862440451, 3268161021, 884235943, 3639301714, 1433864256, 2857887797, 346507262], [2237363009, 1933968139, 2862440451, 3268161021, 4206721438, 3639301714, 1433864256, 2857887797], [1928206275, 2237363009, 1933968139, 2862440451, 4223857311, 4206721438, 3639301714, 1433864256], [1539064680, 1928206275, 2237363009, 1933968139, 3087823069, 4223857311, 4206721438, 3639301714], [530289014, 1539064680, 1928206275, 2237363009, 1111676138, 3087823069, 4223857311, 4206721438], [271356967, 530289014, 1539064680, 1928206275, 3619042055, 1111676138, 3087823069, 4223857311], [3043978298, 271356967, 530289014, 1539064680, 893237866, 3619042055, 1111676138, 3087823069], [3277129520, 3043978298, 271356967, 530289014, 2560826306, 893237866, 3619042055, 1111676138]]
def sU0 : List (List UInt32) := [[761195927, 1893145279, 1285261209, 3303769776, 3920719425, 3494060790, 4147776690, 2653135363], [2595401123, 761195927, 1893145279, 1285261209, 375789453, 3920719425, 3494060790, 4147776690], [3618766627, 2595401123, 761195927, 1893145279, 2859460718, 375789453, 3920719425, 3494060790], [893658263, 3618766627, 2595401123, 761195927, 995755162, 2859460718, 375789453, 3920719425], [3920189624, 893658263, 3618766627, 2595401123, 2245826779, 995755162, 2859460718, 375789453], [1725256781, 3920189624, 893658263, 3618766627, 2971044987, 2245826779, 995755162, 2859460718], [2399564593, 1725256781, 3920189624, 893658263, 1382270869, 2971044987, 2245826779, 995755162], [3426656356, 2399564593, 1725256781, 3920189624, 779899391, 1382270869, 2971044987, 2245826779], [1519342048, 3426656356, 2399564593, 1725256781, 2876890967, 779899391, 1382270869, 2971044987], [2135203653, 1519342048, 3426656356, 2399564593, 1931804874, 2876890967, 779899391, 1382270869], [1274635027, 2135203653, 1519342048, 3426656356, 3312024792, 1931804874, 2876890967, 779899391], [2521324971, 1274635027, 2135203653, 1519342048, 3604045998, 3312024792, 1931804874, 2876890967], [891154715, 2521324971, 1274635027, 2135203653, 111990919, 3604045998, 3312024792, 1931804874], [1374622254, 891154715, 2521324971, 1274635027, 2273282011, 111990919, 3604045998, 3312024792], [2519945096, 1374622254, 891154715, 2521324971, 329084604, 2273282011, 111990919, 3604045998], [228321592, 2519945096, 1374622254, 891154715, 4188976057, 329084604, 2273282011, 111990919], [1650723048, 228321592, 2519945096, 1374622254, 1556363316, 4188976057, 329084604, 2273282011], [433276323, 1650723048, 228321592, 2519945096, 2509594006, 1556363316, 4188976057, 329084604], [2738614619, 433276323, 1650723048, 228321592, 2300666790, 2509594006, 1556363316, 4188976057], [286327932, 2738614619, 433276323, 1650723048, 1835212996, 2300666790, 2509594006, 1556363316], [3714590155, 286327932, 2738614619, 433276323, 3406016357, 1835212996, 2300666790, 2509594006], [1101786050, 3714590155, 286327932, 2738614619, 1353858756, 3406016357, 1835212996, 2300666790], [744406000, 1101786050, 3714590155, 286327932, 479824088, 1353858756, 3406016357, 1835212996], [815373033, 744406000, 1101786050, 3714590155, 1170663147, 479824088, 1353858756, 3406016357], [3354232673, 815373033, 744406000, 1101786050, 2276829848, 1170663147, 479824088, 1353858756], [3548495523, 3354232673, 815373033, 744406000, 4083627225, 2276829848, 1170663147, 479824088], [2927329556, 3548495523, 3354232673, 815373033, 4989240, 4083627225, 2276829848, 1170663147], [2338743193, 2927329556, 3548495523, 3354232673, 651605569, 4989240, 4083627225, 2276829848], [2102503155, 2338743193, 2927329556, 3548495523, 3527402699, 651605569, 4989240, 4083627225], [349576740, 2102503155, 2338743193, 2927329556, 2324687474, 3527402699, 651605569, 4989240], [4290992219, 349576740, 2102503155, 2338743193, 3833266516, 2324687474, 3527402699, 651605569], [1284936875, 4290992219, 349576740, 2102503155, 702255582, 3833266516, 2324687474, 3527402699], [3433034914, 1284936875, 4290992219, 349576740, 3236827838, 702255582, 3833266516, 2324687474], [782142586, 3433034914, 1284936875, 4290992219, 217694990, 3236827838, 702255582, 3833266516], [1070220316, 782142586, 3433034914, 1284936875, 1621608573, 217694990, 3236827838, 702255582], [621322108, 1070220316, 782142586, 3433034914, 1023234115, 1621608573, 217694990, 3236827838], [2339323755, 621322108, 1070220316, 782142586, 1470474370, 1023234115, 1621608573, 217694990], [1535497650, 2339323755, 621322108, 1070220316, 3042969634, 1470474370, 1023234115, 1621608573], [596420644, 1535497650, 2339323755, 621322108, 740551834, 3042969634, 1470474370, 1023234115], [1953586944, 596420644, 1535497650, 2339323755, 311007864, 740551834, 3042969634, 1470474370], [329975383, 1953586944, 596420644, 1535497650, 187724551, 311007864, 740551834, 3042969634], [199826110, 329975383, 1953586944, 596420644, 3648709097, 187724551, 311007864, 740551834], [2425733036, 199826110, 329975383, 1953586944, 2899863538, 3648709097, 187724551, 311007864], [3542875576, 2425733036, 199826110, 329975383, 2754929910, 2899863538, 3648709097, 187724551], [3097301946, 3542875576, 2425733036, 199826110, 3248739544, 2754929910, 2899863538, 3648709097], [1906339833, 3097301946, 3542875576, 2425733036, 2771345435, 3248739544, 2754929910, 2899863538], [868530745, 1906339833, 3097301946, 3542875576, 815040242, 2771345435, 3248739544, 2754929910], [2276300891, 868530745, 1906339833, 3097301946, 2575631862, 815040242, 2771345435, 3248739544], [683203094, 2276300891, 868530745, 1906339833, 408616435, 2575631862, 815040242, 2771345435], [1552925618, 683203094, 2276300891, 868530745, 4035734959, 408616435, 2575631862, 815040242], [3156694454, 1552925618, 683203094, 2276300891, 763254781, 4035734959, 408616435, 2575631862], [2895261883, 3156694454, 1552925618, 683203094, 1470432953, 763254781, 4035734959, 408616435], [2696195729, 2895261883, 3156694454, 1552925618, 3869978856, 1470432953, 763254781, 4035734959], [3849258356, 2696195729, 2895261883, 3156694454, 3341691888, 3869978856, 1470432953, 763254781], [3163527410, 3849258356, 2696195729, 2895261883, 622301255, 3341691888, 3869978856, 1470432953], [2811861388, 3163527410, 3849258356, 2696195729, 1487303845, 622301255, 3341691888, 3869978856], [3109247806, 2811861388, 3163527410, 3849258356, 814942122, 1487303845, 622301255, 3341691888], [3098087616, 3109247806, 2811861388, 3163527410, 2779682246, 814942122, 1487303845, 622301255], [69181791, 3098087616, 3109247806, 2811861388, 4205419819, 2779682246, 814942122, 1487303845], [1887366745, 69181791, 3098087616, 3109247806, 2860696013, 4205419819, 2779682246, 814942122], [497650291, 1887366745, 69181791, 3098087616, 3511674808, 2860696013, 4205419819, 2779682246], [528741935, 497650291, 1887366745, 69181791, 2433882350, 3511674808, 2860696013, 4205419819], [459439447, 528741935, 497650291, 1887366745, 2291495505, 2433882350, 3511674808, 2860696013], [3880673701, 459439447, 528741935, 497650291, 2459187548, 2291495505, 2433882350, 3511674808], [1816212020, 3880673701, 459439447, 528741935, 489558521, 2459187548, 2291495505, 2433882350]]
def sF0 : List UInt32 := [761195927, 1893145279, 1285261209, 3303769776, 3920719425, 3494060790, 4147776690, 2653135363]
def sG0 : List UInt32 := [2577407947, 1478851684, 1744700656, 3832511711, 115310650, 1658281042, 2144304899, 792050417]
def sD0 : List UInt8 := [153, 160, 31, 203, 88, 37, 124, 100, 103, 254, 4, 240, 228, 111, 124, 223, 6, 223, 128, 58, 98, 215, 92, 82, 127, 207, 127, 3, 47, 53, 186, 241]
theorem sB0 : ∀ j, j < 8 → shaB shaH (fun i => sP0.getD (64 * 0 + i) 0) j = sF0.getD j 0 :=
  shaB_is _ _ [14, 64, 26, 193, 195, 111, 2, 133, 123, 33, 172, 208, 146, 254, 58, 155, 250, 141, 73, 60, 54, 54, 54, 54, 54, 54, 54, 54, 54, 54, 54, 54, 54, 54, 54, 54, 54, 54, 54, 54, 54, 54, 54, 54, 54, 54, 54, 54, 54, 54, 54, 54, 54, 54, 54, 54, 54, 54, 54, 54, 54, 54, 54, 54] sW0 sF0 sT0 (fun i hi => eq_of_beq (List.all_eq_true.1 (by kernel_rfl : ((List.range 64).all fun i => sP0.getD (64 * 0 + i) 0 == [14, 64, 26, 193, 195, 111, 2, 133, 123, 33, 172, 208, 146, 254, 58, 155, 250, 141, 73, 60, 54, 54, 54, 54, 54, 54, 54, 54, 54, 54, 54, 54, 54, 54, 54, 54, 54, 54, 54, 54, 54, 54, 54, 54, 54, 54, 54, 54, 54, 54, 54, 54, 54, 54, 54, 54, 54, 54, 54, 54, 54, 54, 54, 54].getD i 0) = true) i (List.mem_range.2 hi))) (fun j hj => eq_of_beq (List.all_eq_true.1 (by kernel_rfl : ((List.range 8).all fun j => shaH j == (sT0.getD 0 []).getD j 0) = true) j (List.mem_range.2 hj))) (by kernel_rfl) (by kernel_rfl) (by kernel_rfl)
theorem sC0 (r : Nat → UInt32) (hr : ∀ j, j < 8 → r j = sF0.getD j 0) : ∀ j, j < 8 → shaB r (fun i => sP0.getD (64 * 1 + i) 0) j = sG0.getD j 0 :=
  shaB_is _ _ [131, 148, 200, 240, 62, 81, 87, 8, 128, 0, 0, 0, 0, 0, 0, 0, 0, 0, 0, 0, 0, 0, 0, 0, 0, 0, 0, 0, 0, 0, 0, 0, 0, 0, 0, 0, 0, 0, 0, 0, 0, 0, 0, 0, 0, 0, 0, 0, 0, 0, 0, 0, 0, 0, 0, 0, 0, 0, 0, 0, 0, 0, 2, 64] sX0 sG0 sU0 (fun i hi => eq_of_beq (List.all_eq_true.1 (by kernel_rfl : ((List.range 64).all fun i => sP0.getD (64 * 1 + i) 0 == [131, 148, 200, 240, 62, 81, 87, 8, 128, 0, 0, 0, 0, 0, 0, 0, 0, 0, 0, 0, 0, 0, 0, 0, 0, 0, 0, 0, 0, 0, 0, 0, 0, 0, 0, 0, 0, 0, 0, 0, 0, 0, 0, 0, 0, 0, 0, 0, 0, 0, 0, 0, 0, 0, 0, 0, 0, 0, 0, 0, 0, 0, 2, 64].getD i 0) = true) i (List.mem_range.2 hi))) (fun j hj => (hr j hj).trans (eq_of_beq (List.all_eq_true.1 (by kernel_rfl : ((List.range 8).all fun j => sF0.getD j 0 == (sU0.getD 0 []).getD j 0) = true) j (List.mem_range.2 hj)))) (by kernel_rfl) (by kernel_rfl) (by kernel_rfl)
theorem sum0 : (List.range 32).map (shaD [14, 64, 26, 193, 195, 111, 2, 133, 123, 33, 172, 208, 146, 254, 58, 155, 250, 141, 73, 60, 54, 54, 54, 54, 54, 54, 54, 54, 54, 54, 54, 54, 54, 54, 54, 54, 54, 54, 54, 54, 54, 54, 54, 54, 54, 54, 54, 54, 54, 54, 54, 54, 54, 54, 54, 54, 54, 54, 54, 54, 54, 54, 54, 54, 131, 148, 200, 240, 62, 81, 87, 8]) = sD0 :=
  shaD_two _ sP0 [] sD0 sF0 sG0 (by kernel_rfl) (by kernel_rfl) sB0 sC0 (by kernel_rfl)
def sP1 : List UInt8 := [100, 42, 112, 171, 169, 5, 104, 239, 17, 75, 198, 186, 248, 148, 80, 241, 144, 231, 35, 86, 92, 92, 92, 92, 92, 92, 92, 92, 92, 92, 92, 92, 92, 92, 92, 92, 92, 92, 92, 92, 92, 92, 92, 92, 92, 92, 92, 92, 92, 92, 92, 92, 92, 92, 92, 92, 92, 92, 92, 92, 92, 92, 92, 92, 153, 160, 31, 203, 88, 37, 124, 100, 103, 254, 4, 240, 228, 111, 124, 223, 6, 223, 128, 58, 98, 215, 92, 82, 127, 207, 127, 3, 47, 53, 186, 241, 128, 0, 0, 0, 0, 0, 0, 0, 0, 0, 0, 0, 0, 0, 0, 0, 0, 0, 0, 0, 0, 0, 0, 0, 0, 0, 0, 0, 0, 0, 3, 0]
def sW1 : List UInt32 := [1680502955, 2835704047, 290178746, 4170469617, 2431066966, 1549556828, 1549556828, 1549556828, 1549556828, 1549556828, 1549556828, 1549556828, 1549556828, 1549556828, 1549556828, 1549556828, 4135767366, 851043077, 2512258258, 2596785365, 1413356479, 2092149924, 731524090, 2598169322, 2210601401, 2118987361, 2333298356, 2275516387, 1273118044, 675743677, 4101291884, 1672444049, 2989094986, 1203225137, 733493910, 4072266589, 1121873922, 3288158555, 2184185202, 4107194365, 1415567692, 337333715, 1164669582, 3633549163, 2778621028, 1235420277, 3631356502, 2548660084, 2945628157, 1243239900, 3839591690, 2306755827, 978136324, 2152994268, 2748628829, 2437389995, 3737606670, 4263503927, 1154770373, 1625627848, 116928279, 1267194461, 573730979, 3497711419]
def sX1 : List UInt32 := [2577407947, 1478851684, 1744700656, 3832511711, 115310650, 1658281042, 2144304899, 792050417, 2147483648, 0, 0, 0, 0, 0, 0, 768, 911086408, 3339821516, 2956024787, 1580632721, 220921865, 3450541246, 3906668505, 1602208734, 708813187, 3384055667, 2201094721, 3868258514, 301158971, 1327862655, 597580375, 3095035761, 3482018723, 2723104635, 3650907, 2405533910, 693700940, 1440246293, 2390875954, 1390141386, 2086971794, 1877305375, 1503887882, 3381978641, 2898458069, 172059275, 110715507, 1400645254, 263893115, 4006240297, 3066361285, 2541326396, 1386756414, 1504669623, 1723246519, 3185737718, 1535686665, 2514153699, 1062616652, 1178246810, 760291438, 1271584491, 2283164149, 1018559801]
def sT1 : List (List UInt32) := [[1779033703, 3144134277, 1013904242, 2773480762, 1359893119, 2600822924, 528734635, 1541459225], [1613953272, 1779033703, 3144134277, 1013904242, 4243739469, 1359893119, 2600822924, 528734635], [847134975, 1613953272, 1779033703, 3144134277, 4036814691, 4243739469, 1359893119, 2600822924], [370487406, 847134975, 1613953272, 1779033703, 1021050608, 4036814691, 4243739469, 1359893119], [461875460, 370487406, 847134975, 1613953272, 19323267, 1021050608, 4036814691, 4243739469], [3377462427, 461875460, 370487406, 847134975, 3339104019, 19323267, 1021050608, 4036814691], [1401238951, 3377462427, 461875460, 370487406, 1098638364, 3339104019, 19323267, 1021050608], [2224255972, 1401238951, 3377462427, 461875460, 3524500157, 1098638364, 3339104019, 19323267], [2890755289, 2224255972, 1401238951, 3377462427, 310261190, 3524500157, 1098638364, 3339104019], [2869080204, 2890755289, 2224255972, 1401238951, 3076511574, 310261190, 3524500157, 1098638364], [1929720010, 2869080204, 2890755289, 2224255972, 1981755147, 3076511574, 310261190, 3524500157], [93912606, 1929720010, 2869080204, 2890755289, 3503637347, 1981755147, 3076511574, 310261190], [4195270957, 93912606, 1929720010, 2869080204, 1894584866, 3503637347, 1981755147, 3076511574], [1481392390, 4195270957, 93912606, 1929720010, 1129916847, 1894584866, 3503637347, 1981755147], [1338762297, 1481392390, 4195270957, 93912606, 3147729075, 1129916847, 1894584866, 3503637347], [3696964818, 1338762297, 1481392390, 4195270957, 704450389, 3147729075, 1129916847, 1894584866], [346403427, 3696964818, 1338762297, 1481392390, 890612450, 704450389, 3147729075, 1129916847], [1176627813, 346403427, 3696964818, 1338762297, 2158637329, 890612450, 704450389, 3147729075], [298035125, 1176627813, 346403427, 3696964818, 2288122621, 2158637329, 890612450, 704450389], [2852597036, 298035125, 1176627813, 346403427, 4202302434, 2288122621, 2158637329, 890612450], [2832302982, 2852597036, 298035125, 1176627813, 1545821418, 4202302434, 2288122621, 2158637329], [2577171678, 2832302982, 2852597036, 298035125, 1189841617, 1545821418, 4202302434, 2288122621], [1372155753, 2577171678, 2832302982, 2852597036, 3363240411, 1189841617, 1545821418, 4202302434], [3937116201, 1372155753, 2577171678, 2832302982, 4032025777, 3363240411, 1189841617, 1545821418], [1543014581, 3937116201, 1372155753, 2577171678, 1440435413, 4032025777, 3363240411, 1189841617], [2871032086, 1543014581, 3937116201, 1372155753, 4150078789, 1440435413, 4032025777, 3363240411], [629723048, 2871032086, 1543014581, 3937116201, 2819651826, 4150078789, 1440435413, 4032025777], [2161457944, 629723048, 2871032086, 1543014581, 3904524883, 2819651826, 4150078789, 1440435413], [46163792, 2161457944, 629723048, 2871032086, 287001217, 3904524883, 2819651826, 4150078789], [3362436806, 46163792, 2161457944, 629723048, 924676328, 287001217, 3904524883, 2819651826], [3805635604, 3362436806, 46163792, 2161457944, 3634759335, 924676328, 287001217, 3904524883], [502538079, 3805635604, 3362436806, 46163792, 2391201790, 3634759335, 924676328, 287001217], [1073746487, 502538079, 3805635604, 3362436806, 2345905969, 2391201790, 3634759335, 924676328], [943036189, 1073746487, 502538079, 3805635604, 2111397439, 2345905969, 2391201790, 3634759335], [3925156760, 943036189, 1073746487, 502538079, 2480775170, 2111397439, 2345905969, 2391201790], [1618809925, 3925156760, 943036189, 1073746487, 604486559, 2480775170, 2111397439, 2345905969], [2938583011, 1618809925, 3925156760, 943036189, 2018303877, 604486559, 2480775170, 2111397439], [1039820723, 2938583011, 1618809925, 3925156760, 3299839122, 2018303877, 604486559, 2480775170], [97980657, 1039820723, 2938583011, 1618809925, 2798862814, 3299839122, 2018303877, 604486559], [4130277268, 97980657, 1039820723, 2938583011, 2381755731, 2798862814, 3299839122, 2018303877], [3602308756, 4130277268, 97980657, 1039820723, 2460806017, 2381755731, 2798862814, 3299839122], [1912372917, 3602308756, 4130277268, 97980657, 3201203851, 2460806017, 2381755731, 2798862814], [3731237844, 1912372917, 3602308756, 4130277268, 2505087144, 3201203851, 2460806017, 2381755731], [338465894, 3731237844, 1912372917, 3602308756, 1104474793, 2505087144, 3201203851, 2460806017], [4113826382, 338465894, 3731237844, 1912372917, 3809772993, 1104474793, 2505087144, 3201203851], [345950548, 4113826382, 338465894, 3731237844, 860074716, 3809772993, 1104474793, 2505087144], [3969004541, 345950548, 4113826382, 338465894, 2182715546, 860074716, 3809772993, 1104474793], [2273928101, 3969004541, 345950548, 4113826382, 4212905171, 2182715546, 860074716, 3809772993], [1142361288, 2273928101, 3969004541, 345950548, 1534048357, 4212905171, 2182715546, 860074716], [4122576140, 1142361288, 2273928101, 3969004541, 441477081, 1534048357, 4212905171, 2182715546], [1441265348, 4122576140, 1142361288, 2273928101, 2311267804, 441477081, 1534048357, 4212905171], [470364798, 1441265348, 4122576140, 1142361288, 291163518, 2311267804, 441477081, 1534048357], [2779247680, 470364798, 1441265348, 4122576140, 1675228694, 291163518, 2311267804, 441477081], [3107080258, 2779247680, 470364798, 1441265348, 2223375441, 1675228694, 291163518, 2311267804], [3699709179, 3107080258, 2779247680, 470364798, 1339116055, 2223375441, 1675228694, 291163518], [790389383, 3699709179, 3107080258, 2779247680, 1221718623, 1339116055, 2223375441, 1675228694], [4091771615, 790389383, 3699709179, 3107080258, 771928414, 1221718623, 1339116055, 2223375441], [457568882, 4091771615, 790389383, 3699709179, 755403122, 771928414, 1221718623, 1339116055], [3605884595, 457568882, 4091771615, 790389383, 1973723641, 755403122, 771928414, 1221718623], [1403181798, 3605884595, 457568882, 4091771615, 2033884894, 1973723641, 755403122, 771928414], [3973030413, 1403181798, 3605884595, 457568882, 3290132249, 2033884894, 1973723641, 755403122], [3974122914, 3973030413, 1403181798, 3605884595, 3680607264, 3290132249, 2033884894, 1973723641], [1095613644, 3974122914, 3973030413, 1403181798, 3560857856, 3680607264, 3290132249, 2033884894], [345161882, 1095613644, 3974122914, 3973030413, 3131415193, 3560857856, 3680607264, 3290132249], [2738068182, 345161882, 1095613644, 3974122914, 2152461175, 3131415193, 3560857856, 3680607264]]
def sU1 : List (List UInt32) := [[222134589, 3489296159, 2109517886, 2452636380, 3512354294, 1437270821, 4089592491, 927099193], [1511345110, 222134589, 3489296159, 2109517886, 3789877212, 3512354294, 1437270821, 4089592491], [4180453693, 1511345110, 222134589, 3489296159, 2324902693, 3789877212, 3512354294, 1437270821], [3732051508, 4180453693, 1511345110, 222134589, 3492767560, 2324902693, 3789877212, 3512354294], [1170437819, 3732051508, 4180453693, 1511345110, 745138020, 3492767560, 2324902693, 3789877212], [879826760, 1170437819, 3732051508, 4180453693, 1202949695, 745138020, 3492767560, 2324902693], [2251197817, 879826760, 1170437819, 3732051508, 3085392371, 1202949695, 745138020, 3492767560], [2848275240, 2251197817, 879826760, 1170437819, 3546432945, 3085392371, 1202949695, 745138020], [3947023436, 2848275240, 2251197817, 879826760, 2764603739, 3546432945, 3085392371, 1202949695], [1402409311, 3947023436, 2848275240, 2251197817, 2302328983, 2764603739, 3546432945, 3085392371], [1552548018, 1402409311, 3947023436, 2848275240, 4103556926, 2302328983, 2764603739, 3546432945], [3855518177, 1552548018, 1402409311, 3947023436, 2036275101, 4103556926, 2302328983, 2764603739], [1974955210, 3855518177, 1552548018, 1402409311, 4279315336, 2036275101, 4103556926, 2302328983], [3961663742, 1974955210, 3855518177, 1552548018, 2745031196, 4279315336, 2036275101, 4103556926], [178412239, 3961663742, 1974955210, 3855518177, 3444186105, 2745031196, 4279315336, 2036275101], [263474815, 178412239, 3961663742, 1974955210, 3945029639, 3444186105, 2745031196, 4279315336], [2272763408, 263474815, 178412239, 3961663742, 2371886552, 3945029639, 3444186105, 2745031196], [263460348, 2272763408, 263474815, 178412239, 3707652726, 2371886552, 3945029639, 3444186105], [2853581447, 263460348, 2272763408, 263474815, 682223097, 3707652726, 2371886552, 3945029639], [4263369115, 2853581447, 263460348, 2272763408, 1479102158, 682223097, 3707652726, 2371886552], [2197967226, 4263369115, 2853581447, 263460348, 405206139, 1479102158, 682223097, 3707652726], [2375882518, 2197967226, 4263369115, 2853581447, 3504960823, 405206139, 1479102158, 682223097], [1687807395, 2375882518, 2197967226, 4263369115, 268653557, 3504960823, 405206139, 1479102158], [2053903062, 1687807395, 2375882518, 2197967226, 1598342922, 268653557, 3504960823, 405206139], [245356773, 2053903062, 1687807395, 2375882518, 1822524557, 1598342922, 268653557, 3504960823], [1322351612, 245356773, 2053903062, 1687807395, 1910811438, 1822524557, 1598342922, 268653557], [4152222501, 1322351612, 245356773, 2053903062, 2206241925, 1910811438, 1822524557, 1598342922], [694811264, 4152222501, 1322351612, 245356773, 3246111862, 2206241925, 1910811438, 1822524557], [2503981062, 694811264, 4152222501, 1322351612, 3132383229, 3246111862, 2206241925, 1910811438], [1886680741, 2503981062, 694811264, 4152222501, 1848417013, 3132383229, 3246111862, 2206241925], [1535577056, 1886680741, 2503981062, 694811264, 3902466230, 1848417013, 3132383229, 3246111862], [2367690744, 1535577056, 1886680741, 2503981062, 260454438, 3902466230, 1848417013, 3132383229], [3319682454, 2367690744, 1535577056, 1886680741, 3844499186, 260454438, 3902466230, 1848417013], [740748760, 3319682454, 2367690744, 1535577056, 1786604557, 3844499186, 260454438, 3902466230], [889492220, 740748760, 3319682454, 2367690744, 82152979, 1786604557, 3844499186, 260454438], [3908574612, 889492220, 740748760, 3319682454, 3357926241, 82152979, 1786604557, 3844499186], [1194942367, 3908574612, 889492220, 740748760, 2852389971, 3357926241, 82152979, 1786604557], [2049449727, 1194942367, 3908574612, 889492220, 2026691082, 2852389971, 3357926241, 82152979], [2068881099, 2049449727, 1194942367, 3908574612, 3172132625, 2026691082, 2852389971, 3357926241], [642555611, 2068881099, 2049449727, 1194942367, 689425589, 3172132625, 2026691082, 2852389971], [1519265346, 642555611, 2068881099, 2049449727, 441281979, 689425589, 3172132625, 2026691082], [3644510170, 1519265346, 642555611, 2068881099, 1022229379, 441281979, 689425589, 3172132625], [1989259039, 3644510170, 1519265346, 642555611, 1949085132, 1022229379, 441281979, 689425589], [1610344164, 1989259039, 3644510170, 1519265346, 1204433877, 1949085132, 1022229379, 441281979], [556683606, 1610344164, 1989259039, 3644510170, 1287188641, 1204433877, 1949085132, 1022229379], [816769201, 556683606, 1610344164, 1989259039, 3597536146, 1287188641, 1204433877, 1949085132], [2355488849, 816769201, 556683606, 1610344164, 524794595, 3597536146, 1287188641, 1204433877], [3818317117, 2355488849, 816769201, 556683606, 1831830726, 524794595, 3597536146, 1287188641], [300414693, 3818317117, 2355488849, 816769201, 2278624660, 1831830726, 524794595, 3597536146], [324105108, 300414693, 3818317117, 2355488849, 1435341071, 2278624660, 1831830726, 524794595], [636689164, 324105108, 300414693, 3818317117, 3234231685, 1435341071, 2278624660, 1831830726], [2260278324, 636689164, 324105108, 300414693, 988460065, 3234231685, 1435341071, 2278624660], [1002779298, 2260278324, 636689164, 324105108, 557936020, 988460065, 3234231685, 1435341071], [1005266718, 1002779298, 2260278324, 636689164, 404842016, 557936020, 988460065, 3234231685], [929806822, 1005266718, 1002779298, 2260278324, 115224651, 404842016, 557936020, 988460065], [2426084318, 929806822, 1005266718, 1002779298, 4015797875, 115224651, 404842016, 557936020], [1481893043, 2426084318, 929806822, 1005266718, 1232118538, 4015797875, 115224651, 404842016], [4107136478, 1481893043, 2426084318, 929806822, 1681941556, 1232118538, 4015797875, 115224651], [221896503, 4107136478, 1481893043, 2426084318, 2404779124, 1681941556, 1232118538, 4015797875], [695127189, 221896503, 4107136478, 1481893043, 2149922949, 2404779124, 1681941556, 1232118538], [3625047282, 695127189, 221896503, 4107136478, 1832337176, 2149922949, 2404779124, 1681941556], [500698806, 3625047282, 695127189, 221896503, 2997526795, 1832337176, 2149922949, 2404779124], [2799304111, 500698806, 3625047282, 695127189, 129948438, 2997526795, 1832337176, 2149922949], [397160228, 2799304111, 500698806, 3625047282, 1090725828, 129948438, 2997526795, 1832337176], [1886936521, 397160228, 2799304111, 500698806, 1681579039, 1090725828, 129948438, 2997526795]]
def sF1 : List UInt32 := [222134589, 3489296159, 2109517886, 2452636380, 3512354294, 1437270821, 4089592491, 927099193]
def sG1 : List UInt32 := [2109071110, 3886456387, 613854701, 2953335186, 898966037, 2527996649, 4219540929, 3924625988]
def sD1 : List UInt8 := [125, 181, 223, 6, 231, 166, 158, 67, 36, 150, 173, 237, 176, 8, 81, 146, 53, 149, 34, 21, 150, 174, 42, 233, 251, 129, 21, 193, 233, 237, 10, 68]
theorem sB1 : ∀ j, j < 8 → shaB shaH (fun i => sP1.getD (64 * 0 + i) 0) j = sF1.getD j 0 :=
  shaB_is _ _ [100, 42, 112, 171, 169, 5, 104, 239, 17, 75, 198, 186, 248, 148, 80, 241, 144, 231, 35, 86, 92, 92, 92, 92, 92, 92, 92, 92, 92, 92, 92, 92, 92, 92, 92, 92, 92, 92, 92, 92, 92, 92, 92, 92, 92, 92, 92, 92, 92, 92, 92, 92, 92, 92, 92, 92, 92, 92, 92, 92, 92, 92, 92, 92] sW1 sF1 sT1 (fun i hi => eq_of_beq (List.all_eq_true.1 (by kernel_rfl : ((List.range 64).all fun i => sP1.getD (64 * 0 + i) 0 == [100, 42, 112, 171, 169, 5, 104, 239, 17, 75, 198, 186, 248, 148, 80, 241, 144, 231, 35, 86, 92, 92, 92, 92, 92, 92, 92, 92, 92, 92, 92, 92, 92, 92, 92, 92, 92, 92, 92, 92, 92, 92, 92, 92, 92, 92, 92, 92, 92, 92, 92, 92, 92, 92, 92, 92, 92, 92, 92, 92, 92, 92, 92, 92].getD i 0) = true) i (List.mem_range.2 hi))) (fun j hj => eq_of_beq (List.all_eq_true.1 (by kernel_rfl : ((List.range 8).all fun j => shaH j == (sT1.getD 0 []).getD j 0) = true) j (List.mem_range.2 hj))) (by kernel_rfl) (by kernel_rfl) (by kernel_rfl)
theorem sC1 (r : Nat → UInt32) (hr : ∀ j, j < 8 → r j = sF1.getD j 0) : ∀ j, j < 8 → shaB r (fun i => sP1.getD (64 * 1 + i) 0) j = sG1.getD j 0 :=
  shaB_is _ _ [153, 160, 31, 203, 88, 37, 124, 100, 103, 254, 4, 240, 228, 111, 124, 223, 6, 223, 128, 58, 98, 215, 92, 82, 127, 207, 127, 3, 47, 53, 186, 241, 128, 0, 0, 0, 0, 0, 0, 0, 0, 0, 0, 0, 0, 0, 0, 0, 0, 0, 0, 0, 0, 0, 0, 0, 0, 0, 0, 0, 0, 0, 3, 0] sX1 sG1 sU1 (fun i hi => eq_of_beq (List.all_eq_true.1 (by kernel_rfl : ((List.range 64).all fun i => sP1.getD (64 * 1 + i) 0 == [153, 160, 31, 203, 88, 37, 124, 100, 103, 254, 4, 240, 228, 111, 124, 223, 6, 223, 128, 58, 98, 215, 92, 82, 127, 207, 127, 3, 47, 53, 186, 241, 128, 0, 0, 0, 0, 0, 0, 0, 0, 0, 0, 0, 0, 0, 0, 0, 0, 0, 0, 0, 0, 0, 0, 0, 0, 0, 0, 0, 0, 0, 3, 0].getD i 0) = true) i (List.mem_range.2 hi))) (fun j hj => (hr j hj).trans (eq_of_beq (List.all_eq_true.1 (by kernel_rfl : ((List.range 8).all fun j => sF1.getD j 0 == (sU1.getD 0 []).getD j 0) = true) j (List.mem_range.2 hj)))) (by kernel_rfl) (by kernel_rfl) (by kernel_rfl)
theorem sum1 : (List.range 32).map (shaD ([100, 42, 112, 171, 169, 5, 104, 239, 17, 75, 198, 186, 248, 148, 80, 241, 144, 231, 35, 86, 92, 92, 92, 92, 92, 92, 92, 92, 92, 92, 92, 92, 92, 92, 92, 92, 92, 92, 92, 92, 92, 92, 92, 92, 92, 92, 92, 92, 92, 92, 92, 92, 92, 92, 92, 92, 92, 92, 92, 92, 92, 92, 92, 92] ++ sD0)) = sD1 :=
  shaD_two _ sP1 [] sD1 sF1 sG1 (by kernel_rfl) (by kernel_rfl) sB1 sC1 (by kernel_rfl)
theorem mac1 : macL salt1 [131, 148, 200, 240, 62, 81, 87, 8] = sD1 := by
  have e1 : macI salt1 64 ++ [131, 148, 200, 240, 62, 81, 87, 8] = [14, 64, 26, 193, 195, 111, 2, 133, 123, 33, 172, 208, 146, 254, 58, 155, 250, 141, 73, 60, 54, 54, 54, 54, 54, 54, 54, 54, 54, 54, 54, 54, 54, 54, 54, 54, 54, 54, 54, 54, 54, 54, 54, 54, 54, 54, 54, 54, 54, 54, 54, 54, 54, 54, 54, 54, 54, 54, 54, 54, 54, 54, 54, 54, 131, 148, 200, 240, 62, 81, 87, 8] := by kernel_rfl
  have e2 : macO salt1 64 = [100, 42, 112, 171, 169, 5, 104, 239, 17, 75, 198, 186, 248, 148, 80, 241, 144, 231, 35, 86, 92, 92, 92, 92, 92, 92, 92, 92, 92, 92, 92, 92, 92, 92, 92, 92, 92, 92, 92, 92, 92, 92, 92, 92, 92, 92, 92, 92, 92, 92, 92, 92, 92, 92, 92, 92, 92, 92, 92, 92, 92, 92, 92, 92] := by kernel_rfl
  unfold macL macD
  rw [e1, e2, sum0]
  exact sum1
def sP2 : List UInt8 := [75, 131, 233, 48, 209, 144, 168, 117, 18, 160, 155, 219, 134, 62, 103, 164, 3, 163, 20, 35, 160, 152, 28, 223, 205, 183, 35, 247, 223, 219, 60, 114, 54, 54, 54, 54, 54, 54, 54, 54, 54, 54, 54, 54, 54, 54, 54, 54, 54, 54, 54, 54, 54, 54, 54, 54, 54, 54, 54, 54, 54, 54, 54, 54, 0, 32, 15, 116, 108, 115, 49, 51, 32, 99, 108, 105, 101, 110, 116, 32, 105, 110, 0, 1, 128, 0, 0, 0, 0, 0, 0, 0, 0, 0, 0, 0, 0, 0, 0, 0, 0, 0, 0, 0, 0, 0, 0, 0, 0, 0, 0, 0, 0, 0, 0, 0, 0, 0, 0, 0, 0, 0, 0, 0, 0, 0, 2, 160]
def sW2 : List UInt32 := [1266936112, 3515918453, 312515547, 2252236708, 61019171, 2694323423, 3451331575, 3755687026, 909522486, 909522486, 909522486, 909522486, 909522486, 909522486, 909522486, 909522486, 991342576, 2015282655, 2332181255, 4198160091, 1342249550, 1193728344, 3821052531, 3115316810, 3670778092, 2921463939, 3153426700, 2916655616, 2014146191, 1183397199, 4053115907, 436909918, 1350225723, 3490593274, 2488243072, 510798959, 3764134455, 1604180945, 319063116, 2340945598, 272504130, 2472965245, 3738532234, 3441217416, 3330191791, 3362084198, 513010724, 4191676786, 3511802727, 2949534195, 2403405893, 1126429629, 847508691, 3242272318, 631513205, 406453619, 3365875041, 868161693, 3506699015, 1511747474, 2354904171, 2031989864, 419395258, 3530553377]
def sX2 : List UInt32 := [2101108, 1819488563, 543386729, 1701737504, 1768816641, 2147483648, 0, 0, 0, 0, 0, 0, 0, 0, 0, 672, 2805623500, 2060326016, 1776845184, 3191618614, 3411567594, 431097814, 1035660671, 3931246138, 2783784017, 2965978720, 4056406326, 2217271324, 825483011, 2850539048, 3211247827, 3640817521, 4209793765, 260399163, 165194570, 3750768911, 3841917096, 977248250, 1648760159, 506287495, 376435452, 1085118997, 3926296852, 3741635579, 3068855822, 1082788127, 651069955, 4148167317, 4291010108, 3131811040, 2916245994, 3401203505, 3073999841, 4046860946, 2747232927, 58098453, 1818368685, 389734181, 3682152345, 2498059040, 251774539, 2335138653, 1004023984, 1125295991]
def sT2 : List (List UInt32) := [[1779033703, 3144134277, 1013904242, 2773480762, 1359893119, 2600822924, 528734635, 1541459225], [1200386429, 1779033703, 3144134277, 1013904242, 3830172626, 1359893119, 2600822924, 528734635], [677196730, 1200386429, 1779033703, 3144134277, 233925541, 3830172626, 1359893119, 2600822924], [2632998714, 677196730, 1200386429, 1779033703, 2336338842, 233925541, 3830172626, 1359893119], [2489594558, 2632998714, 677196730, 1200386429, 1375570860, 2336338842, 233925541, 3830172626], [2771070761, 2489594558, 2632998714, 677196730, 2954630925, 1375570860, 2336338842, 233925541], [1316075098, 2771070761, 2489594558, 2632998714, 632514259, 2954630925, 1375570860, 2336338842], [382642467, 1316075098, 2771070761, 2489594558, 1204181761, 632514259, 2954630925, 1375570860], [3575975317, 382642467, 1316075098, 2771070761, 2903376066, 1204181761, 632514259, 2954630925], [1042989229, 3575975317, 382642467, 1316075098, 4280190378, 2903376066, 1204181761, 632514259], [2787974768, 1042989229, 3575975317, 382642467, 4237186464, 4280190378, 2903376066, 1204181761], [883447514, 2787974768, 1042989229, 3575975317, 651312860, 4237186464, 4280190378, 2903376066], [3366549034, 883447514, 2787974768, 1042989229, 3439678625, 651312860, 4237186464, 4280190378], [3113426511, 3366549034, 883447514, 2787974768, 2893010079, 3439678625, 651312860, 4237186464], [636536394, 3113426511, 3366549034, 883447514, 3272890499, 2893010079, 3439678625, 651312860], [1009241905, 636536394, 3113426511, 3366549034, 1323997502, 3272890499, 2893010079, 3439678625], [973890859, 1009241905, 636536394, 3113426511, 457520904, 1323997502, 3272890499, 2893010079], [215706942, 973890859, 1009241905, 636536394, 3019595425, 457520904, 1323997502, 3272890499], [4245385904, 215706942, 973890859, 1009241905, 1601865240, 3019595425, 457520904, 1323997502], [3749582511, 4245385904, 215706942, 973890859, 1485474211, 1601865240, 3019595425, 457520904], [3383601262, 3749582511, 4245385904, 215706942, 1801639349, 1485474211, 1601865240, 3019595425], [2237019582, 3383601262, 3749582511, 4245385904, 1833292798, 1801639349, 1485474211, 1601865240], [2976354571, 2237019582, 3383601262, 3749582511, 2357031234, 1833292798, 1801639349, 1485474211], [2697230847, 2976354571, 2237019582, 3383601262, 77241797, 2357031234, 1833292798, 1801639349], [3268926615, 2697230847, 2976354571, 2237019582, 3037949031, 77241797, 2357031234, 1833292798], [1956927414, 3268926615, 2697230847, 2976354571, 230225221, 3037949031, 77241797, 2357031234], [3680133656, 1956927414, 3268926615, 2697230847, 4198050895, 230225221, 3037949031, 77241797], [1253941045, 3680133656, 1956927414, 3268926615, 3373506918, 4198050895, 230225221, 3037949031], [3848478793, 1253941045, 3680133656, 1956927414, 4026842785, 3373506918, 4198050895, 230225221], [731068801, 3848478793, 1253941045, 3680133656, 3710233216, 4026842785, 3373506918, 4198050895], [3724140692, 731068801, 3848478793, 1253941045, 2207609684, 3710233216, 4026842785, 3373506918], [1726925211, 3724140692, 731068801, 3848478793, 4015948722, 2207609684, 3710233216, 4026842785], [1649534267, 1726925211, 3724140692, 731068801, 2842833768, 4015948722, 2207609684, 3710233216], [2511176246, 1649534267, 1726925211, 3724140692, 2741720020, 2842833768, 4015948722, 2207609684], [1990878542, 2511176246, 1649534267, 1726925211, 3940510960, 2741720020, 2842833768, 4015948722], [993800777, 1990878542, 2511176246, 1649534267, 221577420, 3940510960, 2741720020, 2842833768], [3702319436, 993800777, 1990878542, 2511176246, 3674389146, 221577420, 3940510960, 2741720020], [430875561, 3702319436, 993800777, 1990878542, 1640421453, 3674389146, 221577420, 3940510960], [3904656976, 430875561, 3702319436, 993800777, 1678530140, 1640421453, 3674389146, 221577420], [2883116305, 3904656976, 430875561, 3702319436, 2490832958, 1678530140, 1640421453, 3674389146], [2942110273, 2883116305, 3904656976, 430875561, 20835663, 2490832958, 1678530140, 1640421453], [2111571180, 2942110273, 2883116305, 3904656976, 2646281087, 20835663, 2490832958, 1678530140], [3840842082, 2111571180, 2942110273, 2883116305, 3586622789, 2646281087, 20835663, 2490832958], [3718749621, 3840842082, 2111571180, 2942110273, 3545982887, 3586622789, 2646281087, 20835663], [1011837949, 3718749621, 3840842082, 2111571180, 3909876531, 3545982887, 3586622789, 2646281087], [1644563071, 1011837949, 3718749621, 3840842082, 3046942977, 3909876531, 3545982887, 3586622789], [1344310661, 1644563071, 1011837949, 3718749621, 632597443, 3046942977, 3909876531, 3545982887], [2891959115, 1344310661, 1644563071, 1011837949, 1609344478, 632597443, 3046942977, 3909876531], [4233631984, 2891959115, 1344310661, 1644563071, 171522817, 1609344478, 632597443, 3046942977], [3726555996, 4233631984, 2891959115, 1344310661, 2866418957, 171522817, 1609344478, 632597443], [3774257670, 3726555996, 4233631984, 2891959115, 2636930777, 2866418957, 171522817, 1609344478], [2058956736, 3774257670, 3726555996, 4233631984, 2019010049, 2636930777, 2866418957, 171522817], [2307437159, 2058956736, 3774257670, 3726555996, 118452288, 2019010049, 2636930777, 2866418957], [2056714904, 2307437159, 2058956736, 3774257670, 476380340, 118452288, 2019010049, 2636930777], [2450435456, 2056714904, 2307437159, 2058956736, 1725989067, 476380340, 118452288, 2019010049], [1350545602, 2450435456, 2056714904, 2307437159, 3195595941, 1725989067, 476380340, 118452288], [721554355, 1350545602, 2450435456, 2056714904, 1973264142, 3195595941, 1725989067, 476380340], [1483291791, 721554355, 1350545602, 2450435456, 561674069, 1973264142, 3195595941, 1725989067], [3296064012, 1483291791, 721554355, 1350545602, 1736881662, 561674069, 1973264142, 3195595941], [2306693906, 3296064012, 1483291791, 721554355, 451437832, 1736881662, 561674069, 1973264142], [3448869299, 2306693906, 3296064012, 1483291791, 2691615821, 451437832, 1736881662, 561674069], [352654484, 3448869299, 2306693906, 3296064012, 1731966523, 2691615821, 451437832, 1736881662], [3084091234, 352654484, 3448869299, 2306693906, 964731523, 1731966523, 2691615821, 451437832], [3788431960, 3084091234, 352654484, 3448869299, 3130932252, 964731523, 1731966523, 2691615821], [1012551843, 3788431960, 3084091234, 352654484, 1122408096, 3130932252, 964731523, 1731966523]]
def sU2 : List (List UInt32) := [[2791585546, 2637598941, 4097995476, 3126135246, 2482301215, 1436787880, 1493466158, 3273425748], [1017569486, 2791585546, 2637598941, 4097995476, 3246760774, 2482301215, 1436787880, 1493466158], [1281831869, 1017569486, 2791585546, 2637598941, 1906806733, 3246760774, 2482301215, 1436787880], [2381368097, 1281831869, 1017569486, 2791585546, 2894318985, 1906806733, 3246760774, 2482301215], [558236530, 2381368097, 1281831869, 1017569486, 3244718934, 2894318985, 1906806733, 3246760774], [820090631, 558236530, 2381368097, 1281831869, 3562353211, 3244718934, 2894318985, 1906806733], [3411076613, 820090631, 558236530, 2381368097, 58300561, 3562353211, 3244718934, 2894318985], [211779718, 3411076613, 820090631, 558236530, 2012041333, 58300561, 3562353211, 3244718934], [532455820, 211779718, 3411076613, 820090631, 1058767368, 2012041333, 58300561, 3562353211], [3634824519, 532455820, 211779718, 3411076613, 14816722, 1058767368, 2012041333, 58300561], [1830243677, 3634824519, 532455820, 211779718, 3685127889, 14816722, 1058767368, 2012041333], [3645588757, 1830243677, 3634824519, 532455820, 462942709, 3685127889, 14816722, 1058767368], [506723873, 3645588757, 1830243677, 3634824519, 4043378142, 462942709, 3685127889, 14816722], [2792663565, 506723873, 3645588757, 1830243677, 2827737040, 4043378142, 462942709, 3685127889], [2529387257, 2792663565, 506723873, 3645588757, 2047775378, 2827737040, 4043378142, 462942709], [2480488004, 2529387257, 2792663565, 506723873, 1454968882, 2047775378, 2827737040, 4043378142], [2302472561, 2480488004, 2529387257, 2792663565, 1584661038, 1454968882, 2047775378, 2827737040], [523201734, 2302472561, 2480488004, 2529387257, 398717123, 1584661038, 1454968882, 2047775378], [677264250, 523201734, 2302472561, 2480488004, 3348883449, 398717123, 1584661038, 1454968882], [4169797183, 677264250, 523201734, 2302472561, 1509535363, 3348883449, 398717123, 1584661038], [2317899215, 4169797183, 677264250, 523201734, 863068293, 1509535363, 3348883449, 398717123], [965258212, 2317899215, 4169797183, 677264250, 3272376082, 863068293, 1509535363, 3348883449], [2744431701, 965258212, 2317899215, 4169797183, 2675861894, 3272376082, 863068293, 1509535363], [1898946824, 2744431701, 965258212, 2317899215, 630690372, 2675861894, 3272376082, 863068293], [3419411863, 1898946824, 2744431701, 965258212, 2044692775, 630690372, 2675861894, 3272376082], [23948673, 3419411863, 1898946824, 2744431701, 960847750, 2044692775, 630690372, 2675861894], [1546743793, 23948673, 3419411863, 1898946824, 611560119, 960847750, 2044692775, 630690372], [729458349, 1546743793, 23948673, 3419411863, 1711233821, 611560119, 960847750, 2044692775], [2182249034, 729458349, 1546743793, 23948673, 2939935085, 1711233821, 611560119, 960847750], [2737215446, 2182249034, 729458349, 1546743793, 1596453477, 2939935085, 1711233821, 611560119], [1300480598, 2737215446, 2182249034, 729458349, 2053018924, 1596453477, 2939935085, 1711233821], [1482987380, 1300480598, 2737215446, 2182249034, 1912645134, 2053018924, 1596453477, 2939935085], [2633065301, 1482987380, 1300480598, 2737215446, 2515996337, 1912645134, 2053018924, 1596453477], [4239775085, 2633065301, 1482987380, 1300480598, 2329723074, 2515996337, 1912645134, 2053018924], [83527045, 4239775085, 2633065301, 1482987380, 1920026975, 2329723074, 2515996337, 1912645134], [3813769942, 83527045, 4239775085, 2633065301, 398705247, 1920026975, 2329723074, 2515996337], [114495013, 3813769942, 83527045, 4239775085, 3597322753, 398705247, 1920026975, 2329723074], [12076614, 114495013, 3813769942, 83527045, 2046178340, 3597322753, 398705247, 1920026975], [3184114992, 12076614, 114495013, 3813769942, 1827418142, 2046178340, 3597322753, 398705247], [3891662715, 3184114992, 12076614, 114495013, 3865788471, 1827418142, 2046178340, 3597322753], [4058210081, 3891662715, 3184114992, 12076614, 4171172323, 3865788471, 1827418142, 2046178340], [295296128, 4058210081, 3891662715, 3184114992, 342041728, 4171172323, 3865788471, 1827418142], [1653148922, 295296128, 4058210081, 3891662715, 2806673249, 342041728, 4171172323, 3865788471], [201262332, 1653148922, 295296128, 4058210081, 2804480219, 2806673249, 342041728, 4171172323], [345326289, 201262332, 1653148922, 295296128, 701703698, 2804480219, 2806673249, 342041728], [2963190086, 345326289, 201262332, 1653148922, 3103053954, 701703698, 2804480219, 2806673249], [3163840222, 2963190086, 345326289, 201262332, 2980526238, 3103053954, 701703698, 2804480219], [4073102079, 3163840222, 2963190086, 345326289, 1099285310, 2980526238, 3103053954, 701703698], [694092903, 4073102079, 3163840222, 2963190086, 1547164954, 1099285310, 2980526238, 3103053954], [3557696598, 694092903, 4073102079, 3163840222, 911712089, 1547164954, 1099285310, 2980526238], [600102276, 3557696598, 694092903, 4073102079, 1088863671, 911712089, 1547164954, 1099285310], [612505372, 600102276, 3557696598, 694092903, 1047818765, 1088863671, 911712089, 1547164954], [2308281991, 612505372, 600102276, 3557696598, 3570447509, 1047818765, 1088863671, 911712089], [173984241, 2308281991, 612505372, 600102276, 3169132440, 3570447509, 1047818765, 1088863671], [2046857187, 173984241, 2308281991, 612505372, 519481647, 3169132440, 3570447509, 1047818765], [2872733320, 2046857187, 173984241, 2308281991, 570652589, 519481647, 3169132440, 3570447509], [20978873, 2872733320, 2046857187, 173984241, 2844328578, 570652589, 519481647, 3169132440], [1135326514, 20978873, 2872733320, 2046857187, 2099218255, 2844328578, 570652589, 519481647], [3499052687, 1135326514, 20978873, 2872733320, 2948163739, 2099218255, 2844328578, 570652589], [1339033107, 3499052687, 1135326514, 20978873, 4229427013, 2948163739, 2099218255, 2844328578], [1409843137, 1339033107, 3499052687, 1135326514, 1850172460, 4229427013, 2948163739, 2099218255], [27690716, 1409843137, 1339033107, 3499052687, 1708274344, 1850172460, 4229427013, 2948163739], [3944132708, 27690716, 1409843137, 1339033107, 3381861277, 1708274344, 1850172460, 4229427013], [1341983041, 3944132708, 27690716, 1409843137, 2074276240, 3381861277, 1708274344, 1850172460], [2713553085, 1341983041, 3944132708, 27690716, 3158265779, 2074276240, 3381861277, 1708274344]]
def sF2 : List UInt32 := [2791585546, 2637598941, 4097995476, 3126135246, 2482301215, 1436787880, 1493466158, 3273425748]
def sG2 : List UInt32 := [1210171335, 3979581982, 3747160888, 3153825962, 1345599698, 3511064120, 580360139, 686732796]
def sD2 : List UInt8 := [72, 33, 191, 199, 237, 51, 154, 30, 223, 89, 35, 56, 187, 251, 144, 170, 80, 52, 56, 210, 209, 70, 150, 56, 34, 151, 151, 203, 40, 238, 181, 252]
theorem sB2 : ∀ j, j < 8 → shaB shaH (fun i => sP2.getD (64 * 0 + i) 0) j = sF2.getD j 0 :=
  shaB_is _ _ [75, 131, 233, 48, 209, 144, 168, 117, 18, 160, 155, 219, 134, 62, 103, 164, 3, 163, 20, 35, 160, 152, 28, 223, 205, 183, 35, 247, 223, 219, 60, 114, 54, 54, 54, 54, 54, 54, 54, 54, 54, 54, 54, 54, 54, 54, 54, 54, 54, 54, 54, 54, 54, 54, 54, 54, 54, 54, 54, 54, 54, 54, 54, 54] sW2 sF2 sT2 (fun i hi => eq_of_beq (List.all_eq_true.1 (by kernel_rfl : ((List.range 64).all fun i => sP2.getD (64 * 0 + i) 0 == [75, 131, 233, 48, 209, 144, 168, 117, 18, 160, 155, 219, 134, 62, 103, 164, 3, 163, 20, 35, 160, 152, 28, 223, 205, 183, 35, 247, 223, 219, 60, 114, 54, 54, 54, 54, 54, 54, 54, 54, 54, 54, 54, 54, 54, 54, 54, 54, 54, 54, 54, 54, 54, 54, 54, 54, 54, 54, 54, 54, 54, 54, 54, 54].getD i 0) = true) i (List.mem_range.2 hi))) (fun j hj => eq_of_beq (List.all_eq_true.1 (by kernel_rfl : ((List.range 8).all fun j => shaH j == (sT2.getD 0 []).getD j 0) = true) j (List.mem_range.2 hj))) (by kernel_rfl) (by kernel_rfl) (by kernel_rfl)
theorem sC2 (r : Nat → UInt32) (hr : ∀ j, j < 8 → r j = sF2.getD j 0) : ∀ j, j < 8 → shaB r (fun i => sP2.getD (64 * 1 + i) 0) j = sG2.getD j 0 :=
  shaB_is _ _ [0, 32, 15, 116, 108, 115, 49, 51, 32, 99, 108, 105, 101, 110, 116, 32, 105, 110, 0, 1, 128, 0, 0, 0, 0, 0, 0, 0, 0, 0, 0, 0, 0, 0, 0, 0, 0, 0, 0, 0, 0, 0, 0, 0, 0, 0, 0, 0, 0, 0, 0, 0, 0, 0, 0, 0, 0, 0, 0, 0, 0, 0, 2, 160] sX2 sG2 sU2 (fun i hi => eq_of_beq (List.all_eq_true.1 (by kernel_rfl : ((List.range 64).all fun i => sP2.getD (64 * 1 + i) 0 == [0, 32, 15, 116, 108, 115, 49, 51, 32, 99, 108, 105, 101, 110, 116, 32, 105, 110, 0, 1, 128, 0, 0, 0, 0, 0, 0, 0, 0, 0, 0, 0, 0, 0, 0, 0, 0, 0, 0, 0, 0, 0, 0, 0, 0, 0, 0, 0, 0, 0, 0, 0, 0, 0, 0, 0, 0, 0, 0, 0, 0, 0, 2, 160].getD i 0) = true) i (List.mem_range.2 hi))) (fun j hj => (hr j hj).trans (eq_of_beq (List.all_eq_true.1 (by kernel_rfl : ((List.range 8).all fun j => sF2.getD j 0 == (sU2.getD 0 []).getD j 0) = true) j (List.mem_range.2 hj)))) (by kernel_rfl) (by kernel_rfl) (by kernel_rfl)
theorem sum2 : (List.range 32).map (shaD [75, 131, 233, 48, 209, 144, 168, 117, 18, 160, 155, 219, 134, 62, 103, 164, 3, 163, 20, 35, 160, 152, 28, 223, 205, 183, 35, 247, 223, 219, 60, 114, 54, 54, 54, 54, 54, 54, 54, 54, 54, 54, 54, 54, 54, 54, 54, 54, 54, 54, 54, 54, 54, 54, 54, 54, 54, 54, 54, 54, 54, 54, 54, 54, 0, 32, 15, 116, 108, 115, 49, 51, 32, 99, 108, 105, 101, 110, 116, 32, 105, 110, 0, 1]) = sD2 :=
  shaD_two _ sP2 [] sD2 sF2 sG2 (by kernel_rfl) (by kernel_rfl) sB2 sC2 (by kernel_rfl)
def sP3 : List UInt8 := [33, 233, 131, 90, 187, 250, 194, 31, 120, 202, 241, 177, 236, 84, 13, 206, 105, 201, 126, 73, 202, 242, 118, 181, 167, 221, 73, 157, 181, 177, 86, 24, 92, 92, 92, 92, 92, 92, 92, 92, 92, 92, 92, 92, 92, 92, 92, 92, 92, 92, 92, 92, 92, 92, 92, 92, 92, 92, 92, 92, 92, 92, 92, 92, 72, 33, 191, 199, 237, 51, 154, 30, 223, 89, 35, 56, 187, 251, 144, 170, 80, 52, 56, 210, 209, 70, 150, 56, 34, 151, 151, 203, 40, 238, 181, 252, 128, 0, 0, 0, 0, 0, 0, 0, 0, 0, 0, 0, 0, 0, 0, 0, 0, 0, 0, 0, 0, 0, 0, 0, 0, 0, 0, 0, 0, 0, 3, 0]
def sW3 : List UInt32 := [568951642, 3153773087, 2026566065, 3964931534, 1774812745, 3404887733, 2816297373, 3048298008, 1549556828, 1549556828, 1549556828, 1549556828, 1549556828, 1549556828, 1549556828, 1549556828, 3163018657, 2408474388, 1754573034, 141854496, 1996427166, 2023253373, 3702936927, 1416398115, 1883381740, 993395972, 1426894414, 967567258, 1007978761, 1818691320, 714588749, 3520608516, 2991547485, 4096442532, 1637943602, 1859813532, 1976208767, 3840836876, 856248855, 3924728477, 1979990184, 4170603128, 920946962, 3447501598, 865347692, 3739539124, 3281476288, 2916214295, 3627191267, 632134717, 3640350385, 1930174419, 3128918650, 2971134160, 2457944539, 428199656, 2636239363, 825685299, 2253027967, 4098640, 2664044400, 1426988369, 1777568859, 2522496546]
def sX3 : List UInt32 := [1210171335, 3979581982, 3747160888, 3153825962, 1345599698, 3511064120, 580360139, 686732796, 2147483648, 0, 0, 0, 0, 0, 0, 768, 253587202, 296696853, 2682114104, 3592047933, 1886736365, 3090711304, 2162272289, 2597816889, 1927545883, 3562740747, 1487715180, 1579603534, 2198212469, 853218691, 1644968703, 3114165767, 1690658535, 2165533238, 266018532, 3098759330, 3065193898, 365263886, 3014584404, 1256210007, 1730458392, 4205446978, 71435092, 3507302826, 2682992089, 563656555, 723361414, 167553809, 2209771913, 1419517580, 1577914200, 1878179239, 1076700321, 1332178285, 2631674829, 982273584, 1743374063, 803050778, 1406234248, 4145337061, 2306829044, 538731966, 3348669771, 3478849363]
def sT3 : List (List UInt32) := [[1779033703, 3144134277, 1013904242, 2773480762, 1359893119, 2600822924, 528734635, 1541459225], [502401959, 1779033703, 3144134277, 1013904242, 3132188156, 1359893119, 2600822924, 528734635], [22558322, 502401959, 1779033703, 3144134277, 2952301103, 3132188156, 1359893119, 2600822924], [667854645, 22558322, 502401959, 1779033703, 2260623355, 2952301103, 3132188156, 1359893119], [2226627574, 667854645, 22558322, 502401959, 2652971007, 2260623355, 2952301103, 3132188156], [2093204726, 2226627574, 667854645, 22558322, 885068245, 2652971007, 2260623355, 2952301103], [1450270873, 2093204726, 2226627574, 667854645, 2071011397, 885068245, 2652971007, 2260623355], [79119421, 1450270873, 2093204726, 2226627574, 1119714184, 2071011397, 885068245, 2652971007], [2531762437, 79119421, 1450270873, 2093204726, 148307863, 1119714184, 2071011397, 885068245], [2896218226, 2531762437, 79119421, 1450270873, 526115876, 148307863, 1119714184, 2071011397], [3701001198, 2896218226, 2531762437, 79119421, 1120259754, 526115876, 148307863, 1119714184], [342074414, 3701001198, 2896218226, 2531762437, 4042961334, 1120259754, 526115876, 148307863], [1642104821, 342074414, 3701001198, 2896218226, 825126469, 4042961334, 1120259754, 526115876], [3882189050, 1642104821, 342074414, 3701001198, 1498990080, 825126469, 4042961334, 1120259754], [3425161843, 3882189050, 1642104821, 342074414, 458320084, 1498990080, 825126469, 4042961334], [3931078082, 3425161843, 3882189050, 1642104821, 426722411, 458320084, 1498990080, 825126469], [2532866910, 3931078082, 3425161843, 3882189050, 2700979135, 426722411, 458320084, 1498990080], [2057489209, 2532866910, 3931078082, 3425161843, 4109434258, 2700979135, 426722411, 458320084], [1305170824, 2057489209, 2532866910, 3931078082, 2461608047, 4109434258, 2700979135, 426722411], [860860833, 1305170824, 2057489209, 2532866910, 473315516, 2461608047, 4109434258, 2700979135], [910657669, 860860833, 1305170824, 2057489209, 1381449058, 473315516, 2461608047, 4109434258], [2283728716, 910657669, 860860833, 1305170824, 3017270336, 1381449058, 473315516, 2461608047], [731301711, 2283728716, 910657669, 860860833, 590587982, 3017270336, 1381449058, 473315516], [1193942580, 731301711, 2283728716, 910657669, 2766220989, 590587982, 3017270336, 1381449058], [4124358917, 1193942580, 731301711, 2283728716, 3639411325, 2766220989, 590587982, 3017270336], [2113588538, 4124358917, 1193942580, 731301711, 3066332750, 3639411325, 2766220989, 590587982], [3160661809, 2113588538, 4124358917, 1193942580, 1415992285, 3066332750, 3639411325, 2766220989], [2624434626, 3160661809, 2113588538, 4124358917, 3418038434, 1415992285, 3066332750, 3639411325], [3849657803, 2624434626, 3160661809, 2113588538, 2132112434, 3418038434, 1415992285, 3066332750], [1242615436, 3849657803, 2624434626, 3160661809, 1211153076, 2132112434, 3418038434, 1415992285], [4099320574, 1242615436, 3849657803, 2624434626, 3194526296, 1211153076, 2132112434, 3418038434], [4170517056, 4099320574, 1242615436, 3849657803, 6568281, 3194526296, 1211153076, 2132112434], [1524937505, 4170517056, 4099320574, 1242615436, 272220230, 6568281, 3194526296, 1211153076], [860762117, 1524937505, 4170517056, 4099320574, 655021483, 272220230, 6568281, 3194526296], [3970676963, 860762117, 1524937505, 4170517056, 1912876835, 655021483, 272220230, 6568281], [1256320102, 3970676963, 860762117, 1524937505, 900874670, 1912876835, 655021483, 272220230], [967637264, 1256320102, 3970676963, 860762117, 3010084493, 900874670, 1912876835, 655021483], [2736981943, 967637264, 1256320102, 3970676963, 4172843925, 3010084493, 900874670, 1912876835], [2158771467, 2736981943, 967637264, 1256320102, 3897229887, 4172843925, 3010084493, 900874670], [3719509848, 2158771467, 2736981943, 967637264, 3462775434, 3897229887, 4172843925, 3010084493], [876587511, 3719509848, 2158771467, 2736981943, 2865899699, 3462775434, 3897229887, 4172843925], [2657146697, 876587511, 3719509848, 2158771467, 817039957, 2865899699, 3462775434, 3897229887], [3128038515, 2657146697, 876587511, 3719509848, 1080080760, 817039957, 2865899699, 3462775434], [3026206857, 3128038515, 2657146697, 876587511, 1313884681, 1080080760, 817039957, 2865899699], [2743840656, 3026206857, 3128038515, 2657146697, 823357261, 1313884681, 1080080760, 817039957], [4166809635, 2743840656, 3026206857, 3128038515, 1770100132, 823357261, 1313884681, 1080080760], [37913912, 4166809635, 2743840656, 3026206857, 3179535904, 1770100132, 823357261, 1313884681], [2082815899, 37913912, 4166809635, 2743840656, 1794539425, 3179535904, 1770100132, 823357261], [1392389110, 2082815899, 37913912, 4166809635, 3340294924, 1794539425, 3179535904, 1770100132], [987642834, 1392389110, 2082815899, 37913912, 2905718772, 3340294924, 1794539425, 3179535904], [570796232, 987642834, 1392389110, 2082815899, 2155929920, 2905718772, 3340294924, 1794539425], [670516012, 570796232, 987642834, 1392389110, 417004638, 2155929920, 2905718772, 3340294924], [2747107020, 670516012, 570796232, 987642834, 106178316, 417004638, 2155929920, 2905718772], [695148837, 2747107020, 670516012, 570796232, 1476823898, 106178316, 417004638, 2155929920], [2796666359, 695148837, 2747107020, 670516012, 2764196862, 1476823898, 106178316, 417004638], [1377161317, 2796666359, 695148837, 2747107020, 359196994, 2764196862, 1476823898, 106178316], [198607959, 1377161317, 2796666359, 695148837, 208660415, 359196994, 2764196862, 1476823898], [129429366, 198607959, 1377161317, 2796666359, 1949554838, 208660415, 359196994, 2764196862], [3430132612, 129429366, 198607959, 1377161317, 1303266960, 1949554838, 208660415, 359196994], [1518816299, 3430132612, 129429366, 198607959, 4212249325, 1303266960, 1949554838, 208660415], [1121299381, 1518816299, 3430132612, 129429366, 1428723340, 4212249325, 1303266960, 1949554838], [409098478, 1121299381, 1518816299, 3430132612, 2039477108, 1428723340, 4212249325, 1303266960], [3045674335, 409098478, 1121299381, 1518816299, 1596572396, 2039477108, 1428723340, 4212249325], [2827671945, 3045674335, 409098478, 1121299381, 1336302058, 1596572396, 2039477108, 1428723340], [3188586380, 2827671945, 3045674335, 409098478, 3142546652, 1336302058, 1596572396, 2039477108]]
def sU3 : List (List UInt32) := [[672652787, 1676838926, 4059578577, 3182579240, 207472475, 3937124982, 2125307031, 3580936333], [1633165338, 672652787, 1676838926, 4059578577, 1110190605, 207472475, 3937124982, 2125307031], [1102455977, 1633165338, 672652787, 1676838926, 3663098398, 1110190605, 207472475, 3937124982], [3895061389, 1102455977, 1633165338, 672652787, 1028730179, 3663098398, 1110190605, 207472475], [4220703067, 3895061389, 1102455977, 1633165338, 1084719801, 1028730179, 3663098398, 1110190605], [1898271826, 4220703067, 3895061389, 1102455977, 2840366005, 1084719801, 1028730179, 3663098398], [3299273210, 1898271826, 4220703067, 3895061389, 1638901582, 2840366005, 1084719801, 1028730179], [1909276021, 3299273210, 1898271826, 4220703067, 49800013, 1638901582, 2840366005, 1084719801], [3650026971, 1909276021, 3299273210, 1898271826, 3763289297, 49800013, 1638901582, 2840366005], [4063777250, 3650026971, 1909276021, 3299273210, 1854180306, 3763289297, 49800013, 1638901582], [180822810, 4063777250, 3650026971, 1909276021, 184778927, 1854180306, 3763289297, 49800013], [2600454274, 180822810, 4063777250, 3650026971, 2874187081, 184778927, 1854180306, 3763289297], [1698642713, 2600454274, 180822810, 4063777250, 2252720061, 2874187081, 184778927, 1854180306], [406265211, 1698642713, 2600454274, 180822810, 2181546392, 2252720061, 2874187081, 184778927], [2484119526, 406265211, 1698642713, 2600454274, 2499266399, 2181546392, 2252720061, 2874187081], [2757600894, 2484119526, 406265211, 1698642713, 1383537753, 2499266399, 2181546392, 2252720061], [785947046, 2757600894, 2484119526, 406265211, 327580510, 1383537753, 2499266399, 2181546392], [2787405019, 785947046, 2757600894, 2484119526, 4112587354, 327580510, 1383537753, 2499266399], [520513552, 2787405019, 785947046, 2757600894, 3990036075, 4112587354, 327580510, 1383537753], [289887358, 520513552, 2787405019, 785947046, 683634719, 3990036075, 4112587354, 327580510], [2117565990, 289887358, 520513552, 2787405019, 1528366098, 683634719, 3990036075, 4112587354], [1515057998, 2117565990, 289887358, 520513552, 774122537, 1528366098, 683634719, 3990036075], [3290089752, 1515057998, 2117565990, 289887358, 1303192293, 774122537, 1528366098, 683634719], [3029943910, 3290089752, 1515057998, 2117565990, 1423683158, 1303192293, 774122537, 1528366098], [2836024135, 3029943910, 3290089752, 1515057998, 1478334110, 1423683158, 1303192293, 774122537], [1892512318, 2836024135, 3029943910, 3290089752, 2377012767, 1478334110, 1423683158, 1303192293], [1981099164, 1892512318, 2836024135, 3029943910, 1369346087, 2377012767, 1478334110, 1423683158], [1541469911, 1981099164, 1892512318, 2836024135, 1922582729, 1369346087, 2377012767, 1478334110], [444305368, 1541469911, 1981099164, 1892512318, 1831249060, 1922582729, 1369346087, 2377012767], [3479891353, 444305368, 1541469911, 1981099164, 1332043960, 1831249060, 1922582729, 1369346087], [745479104, 3479891353, 444305368, 1541469911, 2457252215, 1332043960, 1831249060, 1922582729], [2392289460, 745479104, 3479891353, 444305368, 1922511482, 2457252215, 1332043960, 1831249060], [3518286934, 2392289460, 745479104, 3479891353, 1643997170, 1922511482, 2457252215, 1332043960], [714339943, 3518286934, 2392289460, 745479104, 1734124855, 1643997170, 1922511482, 2457252215], [1233363252, 714339943, 3518286934, 2392289460, 3038155474, 1734124855, 1643997170, 1922511482], [809668667, 1233363252, 714339943, 3518286934, 1610589955, 3038155474, 1734124855, 1643997170], [634667958, 809668667, 1233363252, 714339943, 2273023226, 1610589955, 3038155474, 1734124855], [1789831335, 634667958, 809668667, 1233363252, 2914334464, 2273023226, 1610589955, 3038155474], [2532537207, 1789831335, 634667958, 809668667, 2591961342, 2914334464, 2273023226, 1610589955], [3624791457, 2532537207, 1789831335, 634667958, 764175624, 2591961342, 2914334464, 2273023226], [1006066682, 3624791457, 2532537207, 1789831335, 1516272034, 764175624, 2591961342, 2914334464], [4094799479, 1006066682, 3624791457, 2532537207, 931461504, 1516272034, 764175624, 2591961342], [168248360, 4094799479, 1006066682, 3624791457, 3772953324, 931461504, 1516272034, 764175624], [1187659213, 168248360, 4094799479, 1006066682, 2783951836, 3772953324, 931461504, 1516272034], [2177799595, 1187659213, 168248360, 4094799479, 3767744767, 2783951836, 3772953324, 931461504], [1846546052, 2177799595, 1187659213, 168248360, 3889865273, 3767744767, 2783951836, 3772953324], [2116401101, 1846546052, 2177799595, 1187659213, 298154959, 3889865273, 3767744767, 2783951836], [860405147, 2116401101, 1846546052, 2177799595, 2496707253, 298154959, 3889865273, 3767744767], [3632257727, 860405147, 2116401101, 1846546052, 3645888239, 2496707253, 298154959, 3889865273], [845511577, 3632257727, 860405147, 2116401101, 1232863310, 3645888239, 2496707253, 298154959], [696213158, 845511577, 3632257727, 860405147, 1870164436, 1232863310, 3645888239, 2496707253], [2235698299, 696213158, 845511577, 3632257727, 4260850273, 1870164436, 1232863310, 3645888239], [3356338985, 2235698299, 696213158, 845511577, 4100513810, 4260850273, 1870164436, 1232863310], [3882182398, 3356338985, 2235698299, 696213158, 1922713317, 4100513810, 4260850273, 1870164436], [4033348089, 3882182398, 3356338985, 2235698299, 955029787, 1922713317, 4100513810, 4260850273], [3640683489, 4033348089, 3882182398, 3356338985, 2852319076, 955029787, 1922713317, 4100513810], [2840124163, 3640683489, 4033348089, 3882182398, 1460980884, 2852319076, 955029787, 1922713317], [3457754965, 2840124163, 3640683489, 4033348089, 2870136911, 1460980884, 2852319076, 955029787], [2574215419, 3457754965, 2840124163, 3640683489, 2467926415, 2870136911, 1460980884, 2852319076], [1922490191, 2574215419, 3457754965, 2840124163, 2787696829, 2467926415, 2870136911, 1460980884], [3005872299, 1922490191, 2574215419, 3457754965, 78661024, 2787696829, 2467926415, 2870136911], [173069724, 3005872299, 1922490191, 2574215419, 2529475165, 78661024, 2787696829, 2467926415], [4212555492, 173069724, 3005872299, 1922490191, 1968370312, 2529475165, 78661024, 2787696829], [1718179943, 4212555492, 173069724, 3005872299, 2379572772, 1968370312, 2529475165, 78661024], [2549420894, 1718179943, 4212555492, 173069724, 554546779, 2379572772, 1968370312, 2529475165]]
def sF3 : List UInt32 := [672652787, 1676838926, 4059578577, 3182579240, 207472475, 3937124982, 2125307031, 3580936333]
def sG3 : List UInt32 := [3222073681, 3395018869, 3977166773, 3355648964, 762019254, 2021730458, 4093677343, 1815444202]
def sD3 : List UInt8 := [192, 12, 241, 81, 202, 91, 224, 117, 237, 14, 191, 181, 200, 3, 35, 196, 45, 107, 125, 182, 120, 129, 40, 154, 244, 0, 143, 31, 108, 53, 122, 234]
theorem sB3 : ∀ j, j < 8 → shaB shaH (fun i => sP3.getD (64 * 0 + i) 0) j = sF3.getD j 0 :=
  shaB_is _ _ [33, 233, 131, 90, 187, 250, 194, 31, 120, 202, 241, 177, 236, 84, 13, 206, 105, 201, 126, 73, 202, 242, 118, 181, 167, 221, 73, 157, 181, 177, 86, 24, 92, 92, 92, 92, 92, 92, 92, 92, 92, 92, 92, 92, 92, 92, 92, 92, 92, 92, 92, 92, 92, 92, 92, 92, 92, 92, 92, 92, 92, 92, 92, 92] sW3 sF3 sT3 (fun i hi => eq_of_beq (List.all_eq_true.1 (by kernel_rfl : ((List.range 64).all fun i => sP3.getD (64 * 0 + i) 0 == [33, 233, 131, 90, 187, 250, 194, 31, 120, 202, 241, 177, 236, 84, 13, 206, 105, 201, 126, 73, 202, 242, 118, 181, 167, 221, 73, 157, 181, 177, 86, 24, 92, 92, 92, 92, 92, 92, 92, 92, 92, 92, 92, 92, 92, 92, 92, 92, 92, 92, 92, 92, 92, 92, 92, 92, 92, 92, 92, 92, 92, 92, 92, 92].getD i 0) = true) i (List.mem_range.2 hi))) (fun j hj => eq_of_beq (List.all_eq_true.1 (by kernel_rfl : ((List.range 8).all fun j => shaH j == (sT3.getD 0 []).getD j 0) = true) j (List.mem_range.2 hj))) (by kernel_rfl) (by kernel_rfl) (by kernel_rfl)
theorem sC3 (r : Nat → UInt32) (hr : ∀ j, j < 8 → r j = sF3.getD j 0) : ∀ j, j < 8 → shaB r (fun i => sP3.getD (64 * 1 + i) 0) j = sG3.getD j 0 :=
  shaB_is _ _ [72, 33, 191, 199, 237, 51, 154, 30, 223, 89, 35, 56, 187, 251, 144, 170, 80, 52, 56, 210, 209, 70, 150, 56, 34, 151, 151, 203, 40, 238, 181, 252, 128, 0, 0, 0, 0, 0, 0, 0, 0, 0, 0, 0, 0, 0, 0, 0, 0, 0, 0, 0, 0, 0, 0, 0, 0, 0, 0, 0, 0, 0, 3, 0] sX3 sG3 sU3 (fun i hi => eq_of_beq (List.all_eq_true.1 (by kernel_rfl : ((List.range 64).all fun i => sP3.getD (64 * 1 + i) 0 == [72, 33, 191, 199, 237, 51, 154, 30, 223, 89, 35, 56, 187, 251, 144, 170, 80, 52, 56, 210, 209, 70, 150, 56, 34, 151, 151, 203, 40, 238, 181, 252, 128, 0, 0, 0, 0, 0, 0, 0, 0, 0, 0, 0, 0, 0, 0, 0, 0, 0, 0, 0, 0, 0, 0, 0, 0, 0, 0, 0, 0, 0, 3, 0].getD i 0) = true) i (List.mem_range.2 hi))) (fun j hj => (hr j hj).trans (eq_of_beq (List.all_eq_true.1 (by kernel_rfl : ((List.range 8).all fun j => sF3.getD j 0 == (sU3.getD 0 []).getD j 0) = true) j (List.mem_range.2 hj)))) (by kernel_rfl) (by kernel_rfl) (by kernel_rfl)
theorem sum3 : (List.range 32).map (shaD ([33, 233, 131, 90, 187, 250, 194, 31, 120, 202, 241, 177, 236, 84, 13, 206, 105, 201, 126, 73, 202, 242, 118, 181, 167, 221, 73, 157, 181, 177, 86, 24, 92, 92, 92, 92, 92, 92, 92, 92, 92, 92, 92, 92, 92, 92, 92, 92, 92, 92, 92, 92, 92, 92, 92, 92, 92, 92, 92, 92, 92, 92, 92, 92] ++ sD2)) = sD3 :=
  shaD_two _ sP3 [] sD3 sF3 sG3 (by kernel_rfl) (by kernel_rfl) sB3 sC3 (by kernel_rfl)
theorem mac3 : macL sD1 [0, 32, 15, 116, 108, 115, 49, 51, 32, 99, 108, 105, 101, 110, 116, 32, 105, 110, 0, 1] = sD3 := by
  have e1 : macI sD1 64 ++ [0, 32, 15, 116, 108, 115, 49, 51, 32, 99, 108, 105, 101, 110, 116, 32, 105, 110, 0, 1] = [75, 131, 233, 48, 209, 144, 168, 117, 18, 160, 155, 219, 134, 62, 103, 164, 3, 163, 20, 35, 160, 152, 28, 223, 205, 183, 35, 247, 223, 219, 60, 114, 54, 54, 54, 54, 54, 54, 54, 54, 54, 54, 54, 54, 54, 54, 54, 54, 54, 54, 54, 54, 54, 54, 54, 54, 54, 54, 54, 54, 54, 54, 54, 54, 0, 32, 15, 116, 108, 115, 49, 51, 32, 99, 108, 105, 101, 110, 116, 32, 105, 110, 0, 1] := by kernel_rfl
  have e2 : macO sD1 64 = [33, 233, 131, 90, 187, 250, 194, 31, 120, 202, 241, 177, 236, 84, 13, 206, 105, 201, 126, 73, 202, 242, 118, 181, 167, 221, 73, 157, 181, 177, 86, 24, 92, 92, 92, 92, 92, 92, 92, 92, 92, 92, 92, 92, 92, 92, 92, 92, 92, 92, 92, 92, 92, 92, 92, 92, 92, 92, 92, 92, 92, 92, 92, 92] := by kernel_rfl
  unfold macL macD
  rw [e1, e2, sum2]
  exact sum3
theorem lab_client : labL sD1 ⟨#[99, 108, 105, 101, 110, 116, 32, 105, 110]⟩ [] 32 = [192, 12, 241, 81, 202, 91, 224, 117, 237, 14, 191, 181, 200, 3, 35, 196, 45, 107, 125, 182, 120, 129, 40, 154, 244, 0, 143, 31, 108, 53, 122, 234] := by
  have e1 : ([] : List UInt8) ++ infoL ⟨#[99, 108, 105, 101, 110, 116, 32, 105, 110]⟩ [] 32 ++ [UInt8.ofNat (0 + 1)] = [0, 32, 15, 116, 108, 115, 49, 51, 32, 99, 108, 105, 101, 110, 116, 32, 105, 110, 0, 1] := by kernel_rfl
  show (([] : List UInt8) ++ macL sD1 (([] : List UInt8) ++ infoL ⟨#[99, 108, 105, 101, 110, 116, 32, 105, 110]⟩ [] 32 ++ [UInt8.ofNat (0 + 1)])).take 32 = _
  rw [e1, mac3]
  kernel_rfl
def sP4 : List UInt8 := [246, 58, 199, 103, 252, 109, 214, 67, 219, 56, 137, 131, 254, 53, 21, 242, 27, 93, 75, 128, 78, 183, 30, 172, 194, 54, 185, 41, 90, 3, 76, 220, 54, 54, 54, 54, 54, 54, 54, 54, 54, 54, 54, 54, 54, 54, 54, 54, 54, 54, 54, 54, 54, 54, 54, 54, 54, 54, 54, 54, 54, 54, 54, 54, 0, 16, 14, 116, 108, 115, 49, 51, 32, 113, 117, 105, 99, 32, 107, 101, 121, 0, 1, 128, 0, 0, 0, 0, 0, 0, 0, 0, 0, 0, 0, 0, 0, 0, 0, 0, 0, 0, 0, 0, 0, 0, 0, 0, 0, 0, 0, 0, 0, 0, 0, 0, 0, 0, 0, 0, 0, 0, 0, 0, 0, 0, 2, 152]
def sW4 : List UInt32 := [4131047271, 4235056707, 3677915523, 4264891890, 459099008, 1320623788, 3258366249, 1510165724, 909522486, 909522486, 909522486, 909522486, 909522486, 909522486, 909522486, 909522486, 4163300460, 1327887286, 2084249981, 3454437474, 3707912013, 4286867113, 2980609679, 4178543002, 2638059025, 3394821920, 1697749019, 1856407290, 469325406, 1656729362, 2555318221, 1943489926, 1112579793, 1088871286, 3317921057, 2960057712, 1768789212, 1560510271, 1764032646, 1625871626, 1837480777, 1556292636, 3643702818, 3113095071, 758539229, 3720417794, 3369287514, 441331806, 3922219914, 2125680824, 4044426760, 1891785105, 2566752288, 3482637792, 641983512, 753576735, 1961265420, 265986265, 2337314959, 2114704494, 3066245557, 4161264620, 669689062, 3253910787]
def sX4 : List UInt32 := [1052276, 1819488563, 544306537, 1663069029, 2030043520, 0, 0, 0, 0, 0, 0, 0, 0, 0, 0, 664, 2804574668, 4171675022, 1994561733, 4279964866, 2556931723, 3905349291, 582134124, 1457857166, 4198100787, 2883973547, 3378258146, 3744598141, 2099663160, 1740194409, 1781504903, 2607977318, 1094735134, 4294763636, 3581887830, 1516986823, 1035570142, 2785843109, 294907784, 1958022468, 3265913046, 2097045146, 1380968693, 3967646878, 3141893272, 1889885611, 1800885750, 2240187814, 3451599749, 1340368056, 436625401, 2915402360, 214498229, 1823440415, 3203950992, 1630378071, 4179944600, 823004356, 1852277873, 980771123, 1782659836, 2165378343, 2240975937, 43010448]
def sT4 : List (List UInt32) := [[1779033703, 3144134277, 1013904242, 2773480762, 1359893119, 2600822924, 528734635, 1541459225], [4064497588, 1779033703, 3144134277, 1013904242, 2399316489, 1359893119, 2600822924, 528734635], [3403064873, 4064497588, 1779033703, 3144134277, 3237484728, 2399316489, 1359893119, 2600822924], [1220811111, 3403064873, 4064497588, 1779033703, 8686003, 3237484728, 2399316489, 1359893119], [1423390340, 1220811111, 3403064873, 4064497588, 3937153132, 8686003, 3237484728, 2399316489], [324944950, 1423390340, 1220811111, 3403064873, 3204309882, 3937153132, 8686003, 3237484728], [1022881668, 324944950, 1423390340, 1220811111, 3665866197, 3204309882, 3937153132, 8686003], [2124980856, 1022881668, 324944950, 1423390340, 99829934, 3665866197, 3204309882, 3937153132], [3970616975, 2124980856, 1022881668, 324944950, 1403183806, 99829934, 3665866197, 3204309882], [2012121865, 3970616975, 2124980856, 1022881668, 3929143148, 1403183806, 99829934, 3665866197], [4029817794, 2012121865, 3970616975, 2124980856, 4007874772, 3929143148, 1403183806, 99829934], [4081696922, 4029817794, 2012121865, 3970616975, 313775334, 4007874772, 3929143148, 1403183806], [3109943762, 4081696922, 4029817794, 2012121865, 328647474, 313775334, 4007874772, 3929143148], [519465, 3109943762, 4081696922, 4029817794, 1870043106, 328647474, 313775334, 4007874772], [1888946935, 519465, 3109943762, 4081696922, 2021516714, 1870043106, 328647474, 313775334], [2061913157, 1888946935, 519465, 3109943762, 1717733157, 2021516714, 1870043106, 328647474], [3414094826, 2061913157, 1888946935, 519465, 1857179535, 1717733157, 2021516714, 1870043106], [2840986875, 3414094826, 2061913157, 1888946935, 1478581021, 1857179535, 1717733157, 2021516714], [2906417684, 2840986875, 3414094826, 2061913157, 2629962485, 1478581021, 1857179535, 1717733157], [2316698871, 2906417684, 2840986875, 3414094826, 3510357104, 2629962485, 1478581021, 1857179535], [262183414, 2316698871, 2906417684, 2840986875, 2497673540, 3510357104, 2629962485, 1478581021], [2920866375, 262183414, 2316698871, 2906417684, 4193999621, 2497673540, 3510357104, 2629962485], [718208156, 2920866375, 262183414, 2316698871, 2949156555, 4193999621, 2497673540, 3510357104], [2972434862, 718208156, 2920866375, 262183414, 924333012, 2949156555, 4193999621, 2497673540], [1398529226, 2972434862, 718208156, 2920866375, 2864173633, 924333012, 2949156555, 4193999621], [3179883463, 1398529226, 2972434862, 718208156, 442428639, 2864173633, 924333012, 2949156555], [1633872280, 3179883463, 1398529226, 2972434862, 1161126936, 442428639, 2864173633, 924333012], [3223069676, 1633872280, 3179883463, 1398529226, 549333724, 1161126936, 442428639, 2864173633], [2822186369, 3223069676, 1633872280, 3179883463, 3130792805, 549333724, 1161126936, 442428639], [2450718400, 2822186369, 3223069676, 1633872280, 3570367110, 3130792805, 549333724, 1161126936], [1948187499, 2450718400, 2822186369, 3223069676, 3153104852, 3570367110, 3130792805, 549333724], [3467363024, 1948187499, 2450718400, 2822186369, 1627337470, 3153104852, 3570367110, 3130792805], [832977619, 3467363024, 1948187499, 2450718400, 2040176324, 1627337470, 3153104852, 3570367110], [482458842, 832977619, 3467363024, 1948187499, 3087692164, 2040176324, 1627337470, 3153104852], [1324951150, 482458842, 832977619, 3467363024, 1063290303, 3087692164, 2040176324, 1627337470], [1226353083, 1324951150, 482458842, 832977619, 3062736456, 1063290303, 3087692164, 2040176324], [2994235090, 1226353083, 1324951150, 482458842, 2584372508, 3062736456, 1063290303, 3087692164], [3636325548, 2994235090, 1226353083, 1324951150, 796312014, 2584372508, 3062736456, 1063290303], [3836101613, 3636325548, 2994235090, 1226353083, 3060494331, 796312014, 2584372508, 3062736456], [3824531482, 3836101613, 3636325548, 2994235090, 1023998094, 3060494331, 796312014, 2584372508], [11770152, 3824531482, 3836101613, 3636325548, 598474026, 1023998094, 3060494331, 796312014], [3036253481, 11770152, 3824531482, 3836101613, 2784468185, 598474026, 1023998094, 3060494331], [2124086847, 3036253481, 11770152, 3824531482, 3758638767, 2784468185, 598474026, 1023998094], [1692896086, 2124086847, 3036253481, 11770152, 3464228773, 3758638767, 2784468185, 598474026], [3075330886, 1692896086, 2124086847, 3036253481, 3848159413, 3464228773, 3758638767, 2784468185], [1319135086, 3075330886, 1692896086, 2124086847, 2350793951, 3848159413, 3464228773, 3758638767], [3589503183, 1319135086, 3075330886, 1692896086, 3294682598, 2350793951, 3848159413, 3464228773], [518416310, 3589503183, 1319135086, 3075330886, 2903191743, 3294682598, 2350793951, 3848159413], [2206160750, 518416310, 3589503183, 1319135086, 3092450337, 2903191743, 3294682598, 2350793951], [636317197, 2206160750, 518416310, 3589503183, 4120897889, 3092450337, 2903191743, 3294682598], [303355828, 636317197, 2206160750, 518416310, 1399761110, 4120897889, 3092450337, 2903191743], [2706434818, 303355828, 636317197, 2206160750, 3527313033, 1399761110, 4120897889, 3092450337], [2481598256, 2706434818, 303355828, 636317197, 1109875928, 3527313033, 1399761110, 4120897889], [2380963453, 2481598256, 2706434818, 303355828, 717506184, 1109875928, 3527313033, 1399761110], [2491541820, 2380963453, 2481598256, 2706434818, 3921466052, 717506184, 1109875928, 3527313033], [356779387, 2491541820, 2380963453, 2481598256, 3041531183, 3921466052, 717506184, 1109875928], [3578967522, 356779387, 2491541820, 2380963453, 3571454058, 3041531183, 3921466052, 717506184], [2372829323, 3578967522, 356779387, 2491541820, 897772758, 3571454058, 3041531183, 3921466052], [4239926457, 2372829323, 3578967522, 356779387, 2666373799, 897772758, 3571454058, 3041531183], [1848295257, 4239926457, 2372829323, 3578967522, 3951105292, 2666373799, 897772758, 3571454058], [3369607565, 1848295257, 4239926457, 2372829323, 2789439387, 3951105292, 2666373799, 897772758], [4288633646, 3369607565, 1848295257, 4239926457, 2172075167, 2789439387, 3951105292, 2666373799], [2265689034, 4288633646, 3369607565, 1848295257, 2032993191, 2172075167, 2789439387, 3951105292], [2049718491, 2265689034, 4288633646, 3369607565, 1199690739, 2032993191, 2172075167, 2789439387], [192993950, 2049718491, 2265689034, 4288633646, 748031394, 1199690739, 2032993191, 2172075167]]
def sU4 : List (List UInt32) := [[1972027653, 898885472, 3279593276, 2767147112, 2107924513, 3800513663, 2561727826, 3713534392], [1213729742, 1972027653, 898885472, 3279593276, 4183788369, 2107924513, 3800513663, 2561727826], [2514862267, 1213729742, 1972027653, 898885472, 930751393, 4183788369, 2107924513, 3800513663], [1307753199, 2514862267, 1213729742, 1972027653, 3054940009, 930751393, 4183788369, 2107924513], [2808938007, 1307753199, 2514862267, 1213729742, 1685524, 3054940009, 930751393, 4183788369], [1913176034, 2808938007, 1307753199, 2514862267, 2312992370, 1685524, 3054940009, 930751393], [1529568058, 1913176034, 2808938007, 1307753199, 1211770521, 2312992370, 1685524, 3054940009], [1361607109, 1529568058, 1913176034, 2808938007, 1232948874, 1211770521, 2312992370, 1685524], [1231678448, 1361607109, 1529568058, 1913176034, 1646717871, 1232948874, 1211770521, 2312992370], [3369329900, 1231678448, 1361607109, 1529568058, 4147853384, 1646717871, 1232948874, 1211770521], [548214412, 3369329900, 1231678448, 1361607109, 3618470747, 4147853384, 1646717871, 1232948874], [2288964114, 548214412, 3369329900, 1231678448, 2291987618, 3618470747, 4147853384, 1646717871], [295937827, 2288964114, 548214412, 3369329900, 1213595316, 2291987618, 3618470747, 4147853384], [2880049565, 295937827, 2288964114, 548214412, 4292966388, 1213595316, 2291987618, 3618470747], [1454500425, 2880049565, 295937827, 2288964114, 2675097129, 4292966388, 1213595316, 2291987618], [2984456109, 1454500425, 2880049565, 295937827, 1717466223, 2675097129, 4292966388, 1213595316], [444845543, 2984456109, 1454500425, 2880049565, 3671611208, 1717466223, 2675097129, 4292966388], [852594974, 444845543, 2984456109, 1454500425, 623376321, 3671611208, 1717466223, 2675097129], [2923496973, 852594974, 444845543, 2984456109, 2418923687, 623376321, 3671611208, 1717466223], [1862135317, 2923496973, 852594974, 444845543, 2251985793, 2418923687, 623376321, 3671611208], [370004068, 1862135317, 2923496973, 852594974, 622050909, 2251985793, 2418923687, 623376321], [2530705838, 370004068, 1862135317, 2923496973, 3917019288, 622050909, 2251985793, 2418923687], [3303418958, 2530705838, 370004068, 1862135317, 1702987179, 3917019288, 622050909, 2251985793], [565124312, 3303418958, 2530705838, 370004068, 2917593934, 1702987179, 3917019288, 622050909], [3496422202, 565124312, 3303418958, 2530705838, 246694920, 2917593934, 1702987179, 3917019288], [385535351, 3496422202, 565124312, 3303418958, 2072477717, 246694920, 2917593934, 1702987179], [857865124, 385535351, 3496422202, 565124312, 2716156328, 2072477717, 246694920, 2917593934], [611983446, 857865124, 385535351, 3496422202, 3720207054, 2716156328, 2072477717, 246694920], [2798719342, 611983446, 857865124, 385535351, 3717095389, 3720207054, 2716156328, 2072477717], [2522060852, 2798719342, 611983446, 857865124, 542665725, 3717095389, 3720207054, 2716156328], [3030916263, 2522060852, 2798719342, 611983446, 2535883021, 542665725, 3717095389, 3720207054], [2066056835, 3030916263, 2522060852, 2798719342, 1080644088, 2535883021, 542665725, 3717095389], [3404066315, 2066056835, 3030916263, 2522060852, 1053601138, 1080644088, 2535883021, 542665725], [464040293, 3404066315, 2066056835, 3030916263, 2717366160, 1053601138, 1080644088, 2535883021], [1006673950, 464040293, 3404066315, 2066056835, 637251920, 2717366160, 1053601138, 1080644088], [3731557662, 1006673950, 464040293, 3404066315, 2977841824, 637251920, 2717366160, 1053601138], [165627002, 3731557662, 1006673950, 464040293, 1128547841, 2977841824, 637251920, 2717366160], [3401817892, 165627002, 3731557662, 1006673950, 3983201448, 1128547841, 2977841824, 637251920], [2822642794, 3401817892, 165627002, 3731557662, 1401523276, 3983201448, 1128547841, 2977841824], [1009695548, 2822642794, 3401817892, 165627002, 3767484326, 1401523276, 3983201448, 1128547841], [3578570933, 1009695548, 2822642794, 3401817892, 3405156025, 3767484326, 1401523276, 3983201448], [776442986, 3578570933, 1009695548, 2822642794, 981279797, 3405156025, 3767484326, 1401523276], [592775784, 776442986, 3578570933, 1009695548, 1488137975, 981279797, 3405156025, 3767484326], [549616353, 592775784, 776442986, 3578570933, 636335350, 1488137975, 981279797, 3405156025], [53750008, 549616353, 592775784, 776442986, 526883613, 636335350, 1488137975, 981279797], [1818384487, 53750008, 549616353, 592775784, 3752250966, 526883613, 636335350, 1488137975], [3553129380, 1818384487, 53750008, 549616353, 1165532273, 3752250966, 526883613, 636335350], [2808664150, 3553129380, 1818384487, 53750008, 4239442030, 1165532273, 3752250966, 526883613], [1517510718, 2808664150, 3553129380, 1818384487, 3994084098, 4239442030, 1165532273, 3752250966], [1181420414, 1517510718, 2808664150, 3553129380, 2222325938, 3994084098, 4239442030, 1165532273], [1142326811, 1181420414, 1517510718, 2808664150, 1798221987, 2222325938, 3994084098, 4239442030], [3540670550, 1142326811, 1181420414, 1517510718, 2016950860, 1798221987, 2222325938, 3994084098], [3330765852, 3540670550, 1142326811, 1181420414, 2077979889, 2016950860, 1798221987, 2222325938], [1269831072, 3330765852, 3540670550, 1142326811, 1065169626, 2077979889, 2016950860, 1798221987], [1919858220, 1269831072, 3330765852, 3540670550, 1934233197, 1065169626, 2077979889, 2016950860], [97655847, 1919858220, 1269831072, 3330765852, 2132128026, 1934233197, 1065169626, 2077979889], [624493314, 97655847, 1919858220, 1269831072, 1066544492, 2132128026, 1934233197, 1065169626], [2613461530, 624493314, 97655847, 1919858220, 1286135800, 1066544492, 2132128026, 1934233197], [1541840169, 2613461530, 624493314, 97655847, 425077880, 1286135800, 1066544492, 2132128026], [2799954350, 1541840169, 2613461530, 624493314, 1795696058, 425077880, 1286135800, 1066544492], [4139085023, 2799954350, 1541840169, 2613461530, 345779912, 1795696058, 425077880, 1286135800], [1308902863, 4139085023, 2799954350, 1541840169, 2751531252, 345779912, 1795696058, 425077880], [768777436, 1308902863, 4139085023, 2799954350, 3056037837, 2751531252, 345779912, 1795696058], [1199713330, 768777436, 1308902863, 4139085023, 3622506477, 3056037837, 2751531252, 345779912], [2607297469, 1199713330, 768777436, 1308902863, 1238963643, 3622506477, 3056037837, 2751531252]]
def sF4 : List UInt32 := [1972027653, 898885472, 3279593276, 2767147112, 2107924513, 3800513663, 2561727826, 3713534392]
def sG4 : List UInt32 := [284357826, 2098598802, 4048370712, 4076049975, 3346888156, 3128052844, 1322798367, 2170098348]
def sD4 : List UInt8 := [16, 242, 244, 194, 125, 22, 19, 146, 241, 77, 60, 24, 242, 243, 150, 55, 199, 125, 117, 220, 186, 114, 76, 108, 78, 216, 77, 31, 129, 89, 18, 172]
theorem sB4 : ∀ j, j < 8 → shaB shaH (fun i => sP4.getD (64 * 0 + i) 0) j = sF4.getD j 0 :=
  shaB_is _ _ [246, 58, 199, 103, 252, 109, 214, 67, 219, 56, 137, 131, 254, 53, 21, 242, 27, 93, 75, 128, 78, 183, 30, 172, 194, 54, 185, 41, 90, 3, 76, 220, 54, 54, 54, 54, 54, 54, 54, 54, 54, 54, 54, 54, 54, 54, 54, 54, 54, 54, 54, 54, 54, 54, 54, 54, 54, 54, 54, 54, 54, 54, 54, 54] sW4 sF4 sT4 (fun i hi => eq_of_beq (List.all_eq_true.1 (by kernel_rfl : ((List.range 64).all fun i => sP4.getD (64 * 0 + i) 0 == [246, 58, 199, 103, 252, 109, 214, 67, 219, 56, 137, 131, 254, 53, 21, 242, 27, 93, 75, 128, 78, 183, 30, 172, 194, 54, 185, 41, 90, 3, 76, 220, 54, 54, 54, 54, 54, 54, 54, 54, 54, 54, 54, 54, 54, 54, 54, 54, 54, 54, 54, 54, 54, 54, 54, 54, 54, 54, 54, 54, 54, 54, 54, 54].getD i 0) = true) i (List.mem_range.2 hi))) (fun j hj => eq_of_beq (List.all_eq_true.1 (by kernel_rfl : ((List.range 8).all fun j => shaH j == (sT4.getD 0 []).getD j 0) = true) j (List.mem_range.2 hj))) (by kernel_rfl) (by kernel_rfl) (by kernel_rfl)
theorem sC4 (r : Nat → UInt32) (hr : ∀ j, j < 8 → r j = sF4.getD j 0) : ∀ j, j < 8 → shaB r (fun i => sP4.getD (64 * 1 + i) 0) j = sG4.getD j 0 :=
  shaB_is _ _ [0, 16, 14, 116, 108, 115, 49, 51, 32, 113, 117, 105, 99, 32, 107, 101, 121, 0, 1, 128, 0, 0, 0, 0, 0, 0, 0, 0, 0, 0, 0, 0, 0, 0, 0, 0, 0, 0, 0, 0, 0, 0, 0, 0, 0, 0, 0, 0, 0, 0, 0, 0, 0, 0, 0, 0, 0, 0, 0, 0, 0, 0, 2, 152] sX4 sG4 sU4 (fun i hi => eq_of_beq (List.all_eq_true.1 (by kernel_rfl : ((List.range 64).all fun i => sP4.getD (64 * 1 + i) 0 == [0, 16, 14, 116, 108, 115, 49, 51, 32, 113, 117, 105, 99, 32, 107, 101, 121, 0, 1, 128, 0, 0, 0, 0, 0, 0, 0, 0, 0, 0, 0, 0, 0, 0, 0, 0, 0, 0, 0, 0, 0, 0, 0, 0, 0, 0, 0, 0, 0, 0, 0, 0, 0, 0, 0, 0, 0, 0, 0, 0, 0, 0, 2, 152].getD i 0) = true) i (List.mem_range.2 hi))) (fun j hj => (hr j hj).trans (eq_of_beq (List.all_eq_true.1 (by kernel_rfl : ((List.range 8).all fun j => sF4.getD j 0 == (sU4.getD 0 []).getD j 0) = true) j (List.mem_range.2 hj)))) (by kernel_rfl) (by kernel_rfl) (by kernel_rfl)
theorem sum4 : (List.range 32).map (shaD [246, 58, 199, 103, 252, 109, 214, 67, 219, 56, 137, 131, 254, 53, 21, 242, 27, 93, 75, 128, 78, 183, 30, 172, 194, 54, 185, 41, 90, 3, 76, 220, 54, 54, 54, 54, 54, 54, 54, 54, 54, 54, 54, 54, 54, 54, 54, 54, 54, 54, 54, 54, 54, 54, 54, 54, 54, 54, 54, 54, 54, 54, 54, 54, 0, 16, 14, 116, 108, 115, 49, 51, 32, 113, 117, 105, 99, 32, 107, 101, 121, 0, 1]) = sD4 :=
  shaD_two _ sP4 [] sD4 sF4 sG4 (by kernel_rfl) (by kernel_rfl) sB4 sC4 (by kernel_rfl)
def sP5 : List UInt8 := [156, 80, 173, 13, 150, 7, 188, 41, 177, 82, 227, 233, 148, 95, 127, 152, 113, 55, 33, 234, 36, 221, 116, 198, 168, 92, 211, 67, 48, 105, 38, 182, 92, 92, 92, 92, 92, 92, 92, 92, 92, 92, 92, 92, 92, 92, 92, 92, 92, 92, 92, 92, 92, 92, 92, 92, 92, 92, 92, 92, 92, 92, 92, 92, 16, 242, 244, 194, 125, 22, 19, 146, 241, 77, 60, 24, 242, 243, 150, 55, 199, 125, 117, 220, 186, 114, 76, 108, 78, 216, 77, 31, 129, 89, 18, 172, 128, 0, 0, 0, 0, 0, 0, 0, 0, 0, 0, 0, 0, 0, 0, 0, 0, 0, 0, 0, 0, 0, 0, 0, 0, 0, 0, 0, 0, 0, 3, 0]
def sW5 : List UInt32 := [2622532877, 2517089321, 2974999529, 2489286552, 1899438570, 618493126, 2824655683, 812197558, 1549556828, 1549556828, 1549556828, 1549556828, 1549556828, 1549556828, 1549556828, 1549556828, 1296456087, 365519141, 4057912061, 2687323180, 1452559596, 931228219, 3631722155, 3123364315, 956329091, 727151709, 3700263015, 2881794696, 2903122288, 2822234337, 258491399, 1392200340, 3019539920, 264905481, 3463516606, 1684174545, 3552129778, 1672093943, 4207852120, 3709190620, 894397394, 148673458, 3256566993, 3620918009, 166042582, 4111391922, 1534152196, 1420404550, 3872401372, 3649152522, 4049671073, 161958677, 3740301105, 205533116, 1462857558, 1313374297, 3943426151, 3043291829, 2998133778, 1774156160, 1899293428, 4035215294, 2178989167, 2628432890]
def sX5 : List UInt32 := [284357826, 2098598802, 4048370712, 4076049975, 3346888156, 3128052844, 1322798367, 2170098348, 2147483648, 0, 0, 0, 0, 0, 0, 768, 3232720338, 3754104122, 3823548681, 3608658082, 2956733830, 4142181268, 4021977431, 328070402, 1887304132, 671900115, 450783729, 1830166437, 4037330242, 3153584133, 243467487, 3783956123, 1992089970, 3057766438, 3974895023, 2851927396, 308387861, 4229582389, 812117167, 4056708709, 3987968168, 1171055774, 1072110446, 418039339, 1067233917, 2805024703, 1579358705, 749111989, 3691505239, 3512706974, 4142022029, 1360019752, 4208191314, 640339253, 3033495681, 3042003063, 531016591, 3877649693, 4132384150, 4259780036, 324229515, 4083862351, 2831513831, 3605862325]
def sT5 : List (List UInt32) := [[1779033703, 3144134277, 1013904242, 2773480762, 1359893119, 2600822924, 528734635, 1541459225], [2555983194, 1779033703, 3144134277, 1013904242, 890802095, 1359893119, 2600822924, 528734635], [2846285710, 2555983194, 1779033703, 3144134277, 3283371707, 890802095, 1359893119, 2600822924], [1794511207, 2846285710, 2555983194, 1779033703, 2968586283, 3283371707, 890802095, 1359893119], [1523017940, 1794511207, 2846285710, 2555983194, 2451041195, 2968586283, 3283371707, 890802095], [985530356, 1523017940, 1794511207, 2846285710, 444628515, 2451041195, 2968586283, 3283371707], [2131979523, 985530356, 1523017940, 1794511207, 2798737317, 444628515, 2451041195, 2968586283], [2107327967, 2131979523, 985530356, 1523017940, 1938733899, 2798737317, 444628515, 2451041195], [943809804, 2107327967, 2131979523, 985530356, 1994596270, 1938733899, 2798737317, 444628515], [537556992, 943809804, 2107327967, 2131979523, 3117377340, 1994596270, 1938733899, 2798737317], [2502380668, 537556992, 943809804, 2107327967, 4199265696, 3117377340, 1994596270, 1938733899], [3470031085, 2502380668, 537556992, 943809804, 1087359567, 4199265696, 3117377340, 1994596270], [2649028732, 3470031085, 2502380668, 537556992, 1827079545, 1087359567, 4199265696, 3117377340], [2855741923, 2649028732, 3470031085, 2502380668, 3034646040, 1827079545, 1087359567, 4199265696], [367538961, 2855741923, 2649028732, 3470031085, 2732847415, 3034646040, 1827079545, 1087359567], [3398933336, 367538961, 2855741923, 2649028732, 2118710018, 2732847415, 3034646040, 1827079545], [3159802081, 3398933336, 367538961, 2855741923, 427142348, 2118710018, 2732847415, 3034646040], [2225651837, 3159802081, 3398933336, 367538961, 1592623760, 427142348, 2118710018, 2732847415], [2497794749, 2225651837, 3159802081, 3398933336, 1550508554, 1592623760, 427142348, 2118710018], [1160830326, 2497794749, 2225651837, 3159802081, 88715739, 1550508554, 1592623760, 427142348], [1853241229, 1160830326, 2497794749, 2225651837, 3969933346, 88715739, 1550508554, 1592623760], [1529726615, 1853241229, 1160830326, 2497794749, 1547527020, 3969933346, 88715739, 1550508554], [2460832495, 1529726615, 1853241229, 1160830326, 2196625518, 1547527020, 3969933346, 88715739], [2292260499, 2460832495, 1529726615, 1853241229, 2902992351, 2196625518, 1547527020, 3969933346], [1557200559, 2292260499, 2460832495, 1529726615, 2647364375, 2902992351, 2196625518, 1547527020], [2420853438, 1557200559, 2292260499, 2460832495, 4045622855, 2647364375, 2902992351, 2196625518], [2947402482, 2420853438, 1557200559, 2292260499, 3435992174, 4045622855, 2647364375, 2902992351], [1125943332, 2947402482, 2420853438, 1557200559, 3818788493, 3435992174, 4045622855, 2647364375], [2846090676, 1125943332, 2947402482, 2420853438, 1604414924, 3818788493, 3435992174, 4045622855], [3039188885, 2846090676, 1125943332, 2947402482, 292057803, 1604414924, 3818788493, 3435992174], [3915580518, 3039188885, 2846090676, 1125943332, 2939133857, 292057803, 1604414924, 3818788493], [4016116580, 3915580518, 3039188885, 2846090676, 1943815216, 2939133857, 292057803, 1604414924], [2783637283, 4016116580, 3915580518, 3039188885, 1031344391, 1943815216, 2939133857, 292057803], [1246854182, 2783637283, 4016116580, 3915580518, 3594105421, 1031344391, 1943815216, 2939133857], [2869252860, 1246854182, 2783637283, 4016116580, 1857045393, 3594105421, 1031344391, 1943815216], [2858103297, 2869252860, 1246854182, 2783637283, 1175111942, 1857045393, 3594105421, 1031344391], [1218346150, 2858103297, 2869252860, 1246854182, 2917425333, 1175111942, 1857045393, 3594105421], [1078380811, 1218346150, 2858103297, 2869252860, 3515977621, 2917425333, 1175111942, 1857045393], [156795961, 1078380811, 1218346150, 2858103297, 3901735357, 3515977621, 2917425333, 1175111942], [1516976709, 156795961, 1078380811, 1218346150, 3134787628, 3901735357, 3515977621, 2917425333], [1401788604, 1516976709, 156795961, 1078380811, 730367160, 3134787628, 3901735357, 3515977621], [2328221590, 1401788604, 1516976709, 156795961, 2287992151, 730367160, 3134787628, 3901735357], [325530676, 2328221590, 1401788604, 1516976709, 3096880121, 2287992151, 730367160, 3134787628], [3931264370, 325530676, 2328221590, 1401788604, 4149113994, 3096880121, 2287992151, 730367160], [2201373237, 3931264370, 325530676, 2328221590, 4096164180, 4149113994, 3096880121, 2287992151], [909969925, 2201373237, 3931264370, 325530676, 1430466612, 4096164180, 4149113994, 3096880121], [2086255583, 909969925, 2201373237, 3931264370, 66829869, 1430466612, 4096164180, 4149113994], [1707453557, 2086255583, 909969925, 2201373237, 3000501767, 66829869, 1430466612, 4096164180], [4095570684, 1707453557, 2086255583, 909969925, 3599401525, 3000501767, 66829869, 1430466612], [299631463, 4095570684, 1707453557, 2086255583, 4103095019, 3599401525, 3000501767, 66829869], [2989077072, 299631463, 4095570684, 1707453557, 157563196, 4103095019, 3599401525, 3000501767], [3500680969, 2989077072, 299631463, 4095570684, 1837752825, 157563196, 4103095019, 3599401525], [1241441864, 3500680969, 2989077072, 299631463, 3229321794, 1837752825, 157563196, 4103095019], [2157229581, 1241441864, 3500680969, 2989077072, 3861068778, 3229321794, 1837752825, 157563196], [953180349, 2157229581, 1241441864, 3500680969, 2813087200, 3861068778, 3229321794, 1837752825], [44854473, 953180349, 2157229581, 1241441864, 3223356278, 2813087200, 3861068778, 3229321794], [1519616219, 44854473, 953180349, 2157229581, 212719675, 3223356278, 2813087200, 3861068778], [1605117735, 1519616219, 44854473, 953180349, 657662619, 212719675, 3223356278, 2813087200], [4181400481, 1605117735, 1519616219, 44854473, 2031218109, 657662619, 212719675, 3223356278], [2466404325, 4181400481, 1605117735, 1519616219, 3938727991, 2031218109, 657662619, 212719675], [3650061662, 2466404325, 4181400481, 1605117735, 2252690157, 3938727991, 2031218109, 657662619], [1762124818, 3650061662, 2466404325, 4181400481, 1294507271, 2252690157, 3938727991, 2031218109], [1552502097, 1762124818, 3650061662, 2466404325, 3615075069, 1294507271, 2252690157, 3938727991], [4146831317, 1552502097, 1762124818, 3650061662, 402669564, 3615075069, 1294507271, 2252690157], [4172087442, 4146831317, 1552502097, 1762124818, 672575274, 402669564, 3615075069, 1294507271]]
def sU5 : List (List UInt32) := [[1656153849, 2995998298, 2566406339, 240638284, 2032468393, 3003492488, 4143809704, 2835966496], [509544314, 1656153849, 2995998298, 2566406339, 3305590888, 2032468393, 3003492488, 4143809704], [2028417301, 509544314, 1656153849, 2995998298, 518868991, 3305590888, 2032468393, 3003492488], [4188421640, 2028417301, 509544314, 1656153849, 3874227786, 518868991, 3305590888, 2032468393], [3258952518, 4188421640, 2028417301, 509544314, 1429797330, 3874227786, 518868991, 3305590888], [283596808, 3258952518, 4188421640, 2028417301, 579486810, 1429797330, 3874227786, 518868991], [3362386297, 283596808, 3258952518, 4188421640, 395343627, 579486810, 1429797330, 3874227786], [775269048, 3362386297, 283596808, 3258952518, 156899144, 395343627, 579486810, 1429797330], [2595986811, 775269048, 3362386297, 283596808, 3417199822, 156899144, 395343627, 579486810], [2060150936, 2595986811, 775269048, 3362386297, 510732863, 3417199822, 156899144, 395343627], [1792807594, 2060150936, 2595986811, 775269048, 2159472085, 510732863, 3417199822, 156899144], [722604394, 1792807594, 2060150936, 2595986811, 1589487495, 2159472085, 510732863, 3417199822], [2308761571, 722604394, 1792807594, 2060150936, 1873674318, 1589487495, 2159472085, 510732863], [568389475, 2308761571, 722604394, 1792807594, 3257616600, 1873674318, 1589487495, 2159472085], [678849288, 568389475, 2308761571, 722604394, 954523127, 3257616600, 1873674318, 1589487495], [135550121, 678849288, 568389475, 2308761571, 2101378272, 954523127, 3257616600, 1873674318], [2282654797, 135550121, 678849288, 568389475, 857150303, 2101378272, 954523127, 3257616600], [2154801105, 2282654797, 135550121, 678849288, 1608218084, 857150303, 2101378272, 954523127], [1675553250, 2154801105, 2282654797, 135550121, 608052121, 1608218084, 857150303, 2101378272], [3174798350, 1675553250, 2154801105, 2282654797, 2562592246, 608052121, 1608218084, 857150303], [878499844, 3174798350, 1675553250, 2154801105, 964724836, 2562592246, 608052121, 1608218084], [2862176318, 878499844, 3174798350, 1675553250, 928228307, 964724836, 2562592246, 608052121], [2298215960, 2862176318, 878499844, 3174798350, 579671933, 928228307, 964724836, 2562592246], [1672303230, 2298215960, 2862176318, 878499844, 990655478, 579671933, 928228307, 964724836], [1940213442, 1672303230, 2298215960, 2862176318, 1056381965, 990655478, 579671933, 928228307], [744303639, 1940213442, 1672303230, 2298215960, 4085735079, 1056381965, 990655478, 579671933], [4173692717, 744303639, 1940213442, 1672303230, 1056291218, 4085735079, 1056381965, 990655478], [1144864662, 4173692717, 744303639, 1940213442, 2625828362, 1056291218, 4085735079, 1056381965], [2598865179, 1144864662, 4173692717, 744303639, 149709226, 2625828362, 1056291218, 4085735079], [3726064436, 2598865179, 1144864662, 4173692717, 21875995, 149709226, 2625828362, 1056291218], [1743673623, 3726064436, 2598865179, 1144864662, 3484200994, 21875995, 149709226, 2625828362], [2473100212, 1743673623, 3726064436, 2598865179, 1352250763, 3484200994, 21875995, 149709226], [2218675998, 2473100212, 1743673623, 3726064436, 2890355489, 1352250763, 3484200994, 21875995], [1288602304, 2218675998, 2473100212, 1743673623, 2192550585, 2890355489, 1352250763, 3484200994], [783924172, 1288602304, 2218675998, 2473100212, 3539913048, 2192550585, 2890355489, 1352250763], [2960495444, 783924172, 1288602304, 2218675998, 67067832, 3539913048, 2192550585, 2890355489], [2735662785, 2960495444, 783924172, 1288602304, 2572807267, 67067832, 3539913048, 2192550585], [4103005097, 2735662785, 2960495444, 783924172, 969542490, 2572807267, 67067832, 3539913048], [1402460842, 4103005097, 2735662785, 2960495444, 1986000742, 969542490, 2572807267, 67067832], [3704409587, 1402460842, 4103005097, 2735662785, 2060827460, 1986000742, 969542490, 2572807267], [618321702, 3704409587, 1402460842, 4103005097, 1203820499, 2060827460, 1986000742, 969542490], [1148401179, 618321702, 3704409587, 1402460842, 2294820502, 1203820499, 2060827460, 1986000742], [3053168477, 1148401179, 618321702, 3704409587, 395978694, 2294820502, 1203820499, 2060827460], [3379214725, 3053168477, 1148401179, 618321702, 3358433148, 395978694, 2294820502, 1203820499], [224710207, 3379214725, 3053168477, 1148401179, 1479605303, 3358433148, 395978694, 2294820502], [3701250844, 224710207, 3379214725, 3053168477, 1913355646, 1479605303, 3358433148, 395978694], [744264688, 3701250844, 224710207, 3379214725, 2000547551, 1913355646, 1479605303, 3358433148], [3227782418, 744264688, 3701250844, 224710207, 2526586034, 2000547551, 1913355646, 1479605303], [819000444, 3227782418, 744264688, 3701250844, 689822790, 2526586034, 2000547551, 1913355646], [3906544687, 819000444, 3227782418, 744264688, 3105676928, 689822790, 2526586034, 2000547551], [2478302227, 3906544687, 819000444, 3227782418, 527082340, 3105676928, 689822790, 2526586034], [71580823, 2478302227, 3906544687, 819000444, 4160043637, 527082340, 3105676928, 689822790], [3899942632, 71580823, 2478302227, 3906544687, 1662305848, 4160043637, 527082340, 3105676928], [1990492661, 3899942632, 71580823, 2478302227, 38225881, 1662305848, 4160043637, 527082340], [1830205453, 1990492661, 3899942632, 71580823, 3697620648, 38225881, 1662305848, 4160043637], [2662081502, 1830205453, 1990492661, 3899942632, 1961675910, 3697620648, 38225881, 1662305848], [1592532437, 2662081502, 1830205453, 1990492661, 3203095284, 1961675910, 3697620648, 38225881], [1832766604, 1592532437, 2662081502, 1830205453, 2077191990, 3203095284, 1961675910, 3697620648], [980990633, 1832766604, 1592532437, 2662081502, 3234150753, 2077191990, 3203095284, 1961675910], [810913945, 980990633, 1832766604, 1592532437, 3611803236, 3234150753, 2077191990, 3203095284], [94096235, 810913945, 980990633, 1832766604, 2372652652, 3611803236, 3234150753, 2077191990], [3579431137, 94096235, 810913945, 980990633, 489326770, 2372652652, 3611803236, 3234150753], [3728256776, 3579431137, 94096235, 810913945, 2916892965, 489326770, 2372652652, 3611803236], [719554284, 3728256776, 3579431137, 94096235, 3635040925, 2916892965, 489326770, 2372652652], [3162484506, 719554284, 3728256776, 3579431137, 803202449, 3635040925, 2916892965, 489326770]]
def sF5 : List UInt32 := [1656153849, 2995998298, 2566406339, 240638284, 2032468393, 3003492488, 4143809704, 2835966496]
def sG5 : List UInt32 := [523671059, 3715552582, 1999695819, 3820069421, 2835670842, 2343566117, 2765735373, 3325293266]
def sD5 : List UInt8 := [31, 54, 150, 19, 221, 118, 213, 70, 119, 48, 239, 203, 227, 177, 162, 45, 169, 4, 231, 58, 139, 175, 251, 37, 164, 217, 197, 205, 198, 51, 242, 210]
theorem sB5 : ∀ j, j < 8 → shaB shaH (fun i => sP5.getD (64 * 0 + i) 0) j = sF5.getD j 0 :=
  shaB_is _ _ [156, 80, 173, 13, 150, 7, 188, 41, 177, 82, 227, 233, 148, 95, 127, 152, 113, 55, 33, 234, 36, 221, 116, 198, 168, 92, 211, 67, 48, 105, 38, 182, 92, 92, 92, 92, 92, 92, 92, 92, 92, 92, 92, 92, 92, 92, 92, 92, 92, 92, 92, 92, 92, 92, 92, 92, 92, 92, 92, 92, 92, 92, 92, 92] sW5 sF5 sT5 (fun i hi => eq_of_beq (List.all_eq_true.1 (by kernel_rfl : ((List.range 64).all fun i => sP5.getD (64 * 0 + i) 0 == [156, 80, 173, 13, 150, 7, 188, 41, 177, 82, 227, 233, 148, 95, 127, 152, 113, 55, 33, 234, 36, 221, 116, 198, 168, 92, 211, 67, 48, 105, 38, 182, 92, 92, 92, 92, 92, 92, 92, 92, 92, 92, 92, 92, 92, 92, 92, 92, 92, 92, 92, 92, 92, 92, 92, 92, 92, 92, 92, 92, 92, 92, 92, 92].getD i 0) = true) i (List.mem_range.2 hi))) (fun j hj => eq_of_beq (List.all_eq_true.1 (by kernel_rfl : ((List.range 8).all fun j => shaH j == (sT5.getD 0 []).getD j 0) = true) j (List.mem_range.2 hj))) (by kernel_rfl) (by kernel_rfl) (by kernel_rfl)
theorem sC5 (r : Nat → UInt32) (hr : ∀ j, j < 8 → r j = sF5.getD j 0) : ∀ j, j < 8 → shaB r (fun i => sP5.getD (64 * 1 + i) 0) j = sG5.getD j 0 :=
  shaB_is _ _ [16, 242, 244, 194, 125, 22, 19, 146, 241, 77, 60, 24, 242, 243, 150, 55, 199, 125, 117, 220, 186, 114, 76, 108, 78, 216, 77, 31, 129, 89, 18, 172, 128, 0, 0, 0, 0, 0, 0, 0, 0, 0, 0, 0, 0, 0, 0, 0, 0, 0, 0, 0, 0, 0, 0, 0, 0, 0, 0, 0, 0, 0, 3, 0] sX5 sG5 sU5 (fun i hi => eq_of_beq (List.all_eq_true.1 (by kernel_rfl : ((List.range 64).all fun i => sP5.getD (64 * 1 + i) 0 == [16, 242, 244, 194, 125, 22, 19, 146, 241, 77, 60, 24, 242, 243, 150, 55, 199, 125, 117, 220, 186, 114, 76, 108, 78, 216, 77, 31, 129, 89, 18, 172, 128, 0, 0, 0, 0, 0, 0, 0, 0, 0, 0, 0, 0, 0, 0, 0, 0, 0, 0, 0, 0, 0, 0, 0, 0, 0, 0, 0, 0, 0, 3, 0].getD i 0) = true) i (List.mem_range.2 hi))) (fun j hj => (hr j hj).trans (eq_of_beq (List.all_eq_true.1 (by kernel_rfl : ((List.range 8).all fun j => sF5.getD j 0 == (sU5.getD 0 []).getD j 0) = true) j (List.mem_range.2 hj)))) (by kernel_rfl) (by kernel_rfl) (by kernel_rfl)
theorem sum5 : (List.range 32).map (shaD ([156, 80, 173, 13, 150, 7, 188, 41, 177, 82, 227, 233, 148, 95, 127, 152, 113, 55, 33, 234, 36, 221, 116, 198, 168, 92, 211, 67, 48, 105, 38, 182, 92, 92, 92, 92, 92, 92, 92, 92, 92, 92, 92, 92, 92, 92, 92, 92, 92, 92, 92, 92, 92, 92, 92, 92, 92, 92, 92, 92, 92, 92, 92, 92] ++ sD4)) = sD5 :=
  shaD_two _ sP5 [] sD5 sF5 sG5 (by kernel_rfl) (by kernel_rfl) sB5 sC5 (by kernel_rfl)
theorem mac5 : macL [192, 12, 241, 81, 202, 91, 224, 117, 237, 14, 191, 181, 200, 3, 35, 196, 45, 107, 125, 182, 120, 129, 40, 154, 244, 0, 143, 31, 108, 53, 122, 234] [0, 16, 14, 116, 108, 115, 49, 51, 32, 113, 117, 105, 99, 32, 107, 101, 121, 0, 1] = sD5 := by
  have e1 : macI [192, 12, 241, 81, 202, 91, 224, 117, 237, 14, 191, 181, 200, 3, 35, 196, 45, 107, 125, 182, 120, 129, 40, 154, 244, 0, 143, 31, 108, 53, 122, 234] 64 ++ [0, 16, 14, 116, 108, 115, 49, 51, 32, 113, 117, 105, 99, 32, 107, 101, 121, 0, 1] = [246, 58, 199, 103, 252, 109, 214, 67, 219, 56, 137, 131, 254, 53, 21, 242, 27, 93, 75, 128, 78, 183, 30, 172, 194, 54, 185, 41, 90, 3, 76, 220, 54, 54, 54, 54, 54, 54, 54, 54, 54, 54, 54, 54, 54, 54, 54, 54, 54, 54, 54, 54, 54, 54, 54, 54, 54, 54, 54, 54, 54, 54, 54, 54, 0, 16, 14, 116, 108, 115, 49, 51, 32, 113, 117, 105, 99, 32, 107, 101, 121, 0, 1] := by kernel_rfl
  have e2 : macO [192, 12, 241, 81, 202, 91, 224, 117, 237, 14, 191, 181, 200, 3, 35, 196, 45, 107, 125, 182, 120, 129, 40, 154, 244, 0, 143, 31, 108, 53, 122, 234] 64 = [156, 80, 173, 13, 150, 7, 188, 41, 177, 82, 227, 233, 148, 95, 127, 152, 113, 55, 33, 234, 36, 221, 116, 198, 168, 92, 211, 67, 48, 105, 38, 182, 92, 92, 92, 92, 92, 92, 92, 92, 92, 92, 92, 92, 92, 92, 92, 92, 92, 92, 92, 92, 92, 92, 92, 92, 92, 92, 92, 92, 92, 92, 92, 92] := by kernel_rfl
  unfold macL macD
  rw [e1, e2, sum4]
  exact sum5
theorem lab_key : labL [192, 12, 241, 81, 202, 91, 224, 117, 237, 14, 191, 181, 200, 3, 35, 196, 45, 107, 125, 182, 120, 129, 40, 154, 244, 0, 143, 31, 108, 53, 122, 234] ⟨#[113, 117, 105, 99, 32, 107, 101, 121]⟩ [] 16 = [31, 54, 150, 19, 221, 118, 213, 70, 119, 48, 239, 203, 227, 177, 162, 45] := by
  have e1 : ([] : List UInt8) ++ infoL ⟨#[113, 117, 105, 99, 32, 107, 101, 121]⟩ [] 16 ++ [UInt8.ofNat (0 + 1)] = [0, 16, 14, 116, 108, 115, 49, 51, 32, 113, 117, 105, 99, 32, 107, 101, 121, 0, 1] := by kernel_rfl
  show (([] : List UInt8) ++ macL [192, 12, 241, 81, 202, 91, 224, 117, 237, 14, 191, 181, 200, 3, 35, 196, 45, 107, 125, 182, 120, 129, 40, 154, 244, 0, 143, 31, 108, 53, 122, 234] (([] : List UInt8) ++ infoL ⟨#[113, 117, 105, 99, 32, 107, 101, 121]⟩ [] 16 ++ [UInt8.ofNat (0 + 1)])).take 16 = _
  rw [e1, mac5]
  kernel_rfl
end Go.Proofs.YtmoaddicejohgaaDoor
set_option linter.unusedSimpArgs false
set_option linter.unusedVariables false
set_option maxRecDepth 100000
set_option maxHeartbeats 4000000
namespace Go.Proofs.YtmoaddicejohgaaDoor
open Go
open List (getD_cons_zero getD_cons_succ set_cons_zero set_cons_succ)
theorem client_is : kCli (macL salt1 (⟨#[131, 148, 200, 240, 62, 81, 87, 8]⟩ : ByteArray).data.toList) = ⟨#[192, 12, 241, 81, 202, 91, 224, 117, 237, 14, 191, 181, 200, 3, 35, 196, 45, 107, 125, 182, 120, 129, 40, 154, 244, 0, 143, 31, 108, 53, 122, 234]⟩ := by
  show (⟨(labL (macL salt1 [131, 148, 200, 240, 62, 81, 87, 8]) ⟨#[99, 108, 105, 101, 110, 116, 32, 105, 110]⟩ [] 32).toArray⟩ : ByteArray) = _
  rw [mac1, lab_client]
theorem key_is : kKey (⟨#[192, 12, 241, 81, 202, 91, 224, 117, 237, 14, 191, 181, 200, 3, 35, 196, 45, 107, 125, 182, 120, 129, 40, 154, 244, 0, 143, 31, 108, 53, 122, 234]⟩ : ByteArray).data.toList = ⟨#[31, 54, 150, 19, 221, 118, 213, 70, 119, 48, 239, 203, 227, 177, 162, 45]⟩ := by
  show (⟨(labL [192, 12, 241, 81, 202, 91, 224, 117, 237, 14, 191, 181, 200, 3, 35, 196, 45, 107, 125, 182, 120, 129, 40, 154, 244, 0, 143, 31, 108, 53, 122, 234] ⟨#[113, 117, 105, 99, 32, 107, 101, 121]⟩ [] 16).toArray⟩ : ByteArray) = _
  rw [lab_key]
theorem client_is2 : kCli (macL salt1 [131, 148, 200, 240, 62, 81, 87, 8]) = ⟨#[192, 12, 241, 81, 202, 91, 224, 117, 237, 14, 191, 181, 200, 3, 35, 196, 45, 107, 125, 182, 120, 129, 40, 154, 244, 0, 143, 31, 108, 53, 122, 234]⟩ := client_is
theorem key_is2 : kKey [192, 12, 241, 81, 202, 91, 224, 117, 237, 14, 191, 181, 200, 3, 35, 196, 45, 107, 125, 182, 120, 129, 40, 154, 244, 0, 143, 31, 108, 53, 122, 234] = ⟨#[31, 54, 150, 19, 221, 118, 213, 70, 119, 48, 239, 203, 227, 177, 162, 45]⟩ := key_is
theorem guards_calls (w : World) (hT : Tabs w) : Ret Tryd.prog 8 #[] w fun v w' => v = BV true ∧ Chg [] w w' := by
 refine Ret.enter Tryd.func8 rfl ?_
 simp only [Tryd.ntmps8, fe, Nat.reduceAdd, Nat.reduceSub]
 have hH := Hp.start [] w
 refine wp_seq_k ?_
 intro K1 hK1
 refine wrt [.p 0] ?_
 refine pa ?_;simp only [nf]
 refine plan_nil hH ?_
 clear hH
 intro w2 hH
 refine hK1 _ _ ?_
 (try clear hK1 K1)
 refine wp_seq_k ?_
 intro K3 hK3
 refine wrt [.q 0, .p 1, .p 2, .p 3, .p 4, .p 5, .p 6, .p 7] ?_
 refine pq rfl rfl (qr_call cf18 (fun w' hw => keysFirst_calls _ w' (hT.grow (hH.chg.trans hw)) (by first | omega | decide)) rfl) ?_;simp only [nf]
 refine pm ?_;simp only [nf]
 refine pp rfl rfl (pr_extract rfl rfl) ?_;simp only [nf]
 refine pp rfl rfl (pr_extract rfl rfl) ?_;simp only [nf]
 refine pp rfl rfl (pr_extract rfl rfl) ?_;simp only [nf]
 refine pa (pa (pa ?_));simp only [nf]
 refine plan_nil hH ?_
 clear hH
 intro w4 hH
 simp only [client_is, client_is2]
 refine hK3 _ _ ?_
 (try clear hK3 K3)
 refine wp_seq_k ?_
 intro K5 hK5
 refine wrt [.p 0, .q 1, .p 2, .p 3, .p 4, .x 5, .e 6, .p 7] ?_
 refine pm ?_;simp only [nf]
 refine pq rfl rfl (qr_call cf20 (fun w' hw => keysOf_calls _ w' (hT.grow (hH.chg.trans hw)) (by first | rfl | assumption)) rfl) ?_;simp only [nf]
 refine pm ?_;simp only [nf]
 refine pp rfl rfl (pr_extract rfl rfl) ?_;simp only [nf]
 refine pp rfl rfl (pr_extract rfl rfl) ?_;simp only [nf]
 refine plan_alloc rfl rfl hH zc37 ?_
 clear hH
 intro b6 w7 hH
 (try simp only [nf, nh, Value.cells, arrB_set] at hH ⊢)
 refine plan_storeW 0 rfl rfl hH rfl rfl rfl (by simp [Value.oneCell']) sz37 (by simp) (by simp) ?_
 clear hH
 intro w8 hH
 (try simp only [nf, nh, Value.cells, arrB_set] at hH ⊢)
 refine pa ?_;simp only [nf]
 refine plan_nil hH ?_
 clear hH
 intro w9 hH
 simp only [key_is, key_is2] at hH
 refine hK5 _ _ ?_
 (try clear hK5 K5)
 refine wp_seq_k ?_
 intro K10 hK10
 refine wrt [.p 0, .p 1, .p 2, .p 3, .p 4, .p 5, .p 6, .p 7, .q 8, .p 9, .p 10, .p 11, .p 12, .p 13, .q 14, .p 15, .p 16, .p 17, .p 18, .p 19, .q 20, .p 21, .p 22, .p 23, .p 24] ?_
 refine pm ?_;simp only [nf]
 refine pp rfl rfl (pr_bin rfl rfl (by first | exact bin_eql_n (n := 0)  | exact bin_eql_i)) ?_;simp only [nf]
 refine plan_p (v := BV true) rfl rfl (pr_move_v rfl) ?_
 (try simp only [nf])
 refine pp rfl rfl pr_move ?_;simp only [nf]
 refine pp rfl rfl (pr_bin rfl rfl (by first | exact bin_eql_n (n := 0)  | exact bin_eql_i)) ?_;simp only [nf]
 refine pp rfl rfl (pr_pick_t rfl) ?_;simp only [nf]
 refine plan_p (v := BV true) rfl rfl (pr_move_v rfl) ?_
 (try simp only [nf])
 refine pp rfl rfl (pr_fieldAddr 0 rfl Tryd.underlying37 rfl rfl sz9) ?_;simp only [nf]
 refine pq rfl rfl (qr_load1 rfl Tryd.underlying9 rfl ((hH.blk 0 rfl).cell rfl)) ?_;simp only [nf]
 refine pp rfl rfl (pr_len_str rfl Tryd.underlying9) ?_;simp only [nf]
 refine pp rfl rfl (pr_bin rfl rfl (by first | exact bin_eql_n (n := 16)  | exact bin_eql_i)) ?_;simp only [nf]
 refine pp rfl rfl (pr_pick_t rfl) ?_;simp only [nf]
 refine plan_p (v := BV true) rfl rfl (pr_move_v rfl) ?_
 (try simp only [nf])
 refine pp rfl rfl (pr_fieldAddr 0 rfl Tryd.underlying37 rfl rfl sz9) ?_;simp only [nf]
 refine pq rfl rfl (qr_load1 rfl Tryd.underlying9 rfl ((hH.blk 0 rfl).cell rfl)) ?_;simp only [nf]
 refine pp rfl rfl (pr_index_str (i := 0) rfl rfl Tryd.underlying9 (by first | omega | (decide))) ?_;simp only [nf]
 refine pp rfl rfl (pr_bin rfl rfl (bin_eql_u8 _ 31)) ?_;simp only [nf]
 refine pp rfl rfl (pr_pick_t rfl) ?_;simp only [nf]
 refine plan_p (v := BV true) rfl rfl (pr_move_v rfl) ?_
 (try simp only [nf])
 refine pp rfl rfl (pr_fieldAddr 0 rfl Tryd.underlying37 rfl rfl sz9) ?_;simp only [nf]
 refine pq rfl rfl (qr_load1 rfl Tryd.underlying9 rfl ((hH.blk 0 rfl).cell rfl)) ?_;simp only [nf]
 refine pp rfl rfl (pr_index_str (i := 15) rfl rfl Tryd.underlying9 (by first | omega | (decide))) ?_;simp only [nf]
 refine pp rfl rfl (pr_bin rfl rfl (bin_eql_u8 _ 45)) ?_;simp only [nf]
 refine pp rfl rfl (pr_pick_t rfl) ?_;simp only [nf]
 refine pa ?_;simp only [nf]
 refine plan_nil hH ?_
 clear hH
 intro w11 hH
 refine hK10 _ _ ?_
 (try clear hK10 K10)
 refine wp_ret ?_
 (try simp only [Exit.then, Exit.inBlock, ↓reduceIte, Nat.reduceEqDiff])
 refine BP.ret1 rfl rfl ?_
 exact ⟨rfl, hH.chg⟩
end Go.Proofs.YtmoaddicejohgaaDoor
set_option linter.unusedSimpArgs false
set_option linter.unusedVariables false
namespace Go.Proofs.YtmoaddicejohgaaDoor
open Go
theorem Hp.pair {S : List Nat} {w0 w : World} {L : List Own} (h : Hp S w0 w L) : L.Pairwise fun e e' => ∀ b, e.1 = some b → e'.1 ≠ some b := by
  rw [List.pairwise_iff_getElem]
  intro i j hi hj hij b h1 h2
  have := h.apart i j b (by rw [List.getElem?_eq_getElem hi]; exact h1) (by rw [List.getElem?_eq_getElem hj]; exact h2)
  omega
theorem Hp.of_pair {S : List Nat} {w0 w : World} {L : List Own} (hc : Chg S w0 w) (ho : ∀ e ∈ L, ∀ b, e.1 = some b → (w0.heap.size ≤ b ∨ b ∈ S) ∧ Blk w b e.2.1 e.2.2) (hp : L.Pairwise fun e e' => ∀ b, e.1 = some b → e'.1 ≠ some b) : Hp S w0 w L := by
  refine ⟨hc, ho, fun i j b hi hj => ?_⟩
  rw [List.pairwise_iff_getElem] at hp
  obtain ⟨x, hx, hxb⟩ := Option.bind_eq_some_iff.1 hi
  obtain ⟨y, hy, hyb⟩ := Option.bind_eq_some_iff.1 hj
  obtain ⟨hil, rfl⟩ := List.getElem?_eq_some_iff.1 hx
  obtain ⟨hjl, rfl⟩ := List.getElem?_eq_some_iff.1 hy
  rcases Nat.lt_trichotomy i j with h | h | h
  · exact absurd hyb (hp i j hil hjl h b hxb)
  · exact h
  · exact absurd hxb (hp j i hjl hil h b hyb)
theorem Hp.perm {S : List Nat} {w0 w : World} {L L' : List Own} (h : Hp S w0 w L) (hp : L.Perm L') : Hp S w0 w L' :=
  .of_pair h.chg (fun e he => h.own e (hp.mem_iff.2 he)) ((hp.pairwise_iff (fun {a b} hab x h1 h2 => hab x h2 h1)).1 h.pair)
theorem Hp.swap {S : List Nat} {w0 w : World} {L a b : List Own} (h : Hp S w0 w (L ++ a ++ b)) : Hp S w0 w (L ++ b ++ a) := by
  refine h.perm ?_
  rw [List.append_assoc, List.append_assoc]
  exact List.Perm.append_left _ List.perm_append_comm
section
variable {P : Program} {ops : List Oper} {Q : Exit → Act → World → Prop} {md : Region.Mode} {E M : List Nat} {R0 : World → World → Prop} {S : List Nat} {w0 : World} {L : List Own}
def XA (P : Program) (ops : List Oper) (Q : Exit → Act → World → Prop) (i : Nat) (di : Tmp) (S : List Nat) (w0 : World) (L : List Own) (R : Value → List Own → Prop) (a : Act) : Prop :=
  ∀ L' w, Hp S w0 w (L ++ L') → ∀ K : Act → World → Prop, (∀ v es w', R v es → Hp S w0 w' (L ++ L' ++ es) → K (a.put (some di) v) w') → wpPlan P ops.toArray (QK Q K) [.x i] a w
structure XS (P : Program) (ops : List Oper) (Q : Exit → Act → World → Prop) (i : Nat) (di dj : Tmp) (S : List Nat) (w0 : World) (L : List Own) (R : Value → List Own → Prop) (a : Act) : Prop where
  here : XA P ops Q i di S w0 L R a
  there : ∀ u, XA P ops Q i di S w0 L R (a.put (some dj) u)
theorem Rel.swap {ops : Array Oper} {A : Array Bool} {l : List Nat} {i j : Nat} (h : Rel ops A (i :: j :: l)) : Rel ops A (j :: i :: l) where
  at_ k hk := by
    rw [h.at_ k hk]
    simp only [List.contains_cons]
    cases (k == i) <;> cases (k == j) <;> rfl
  size := h.size
  bound k hk := h.bound k (by simp only [List.mem_cons] at hk ⊢; rcases hk with hk | hk | hk <;> simp [hk])
theorem Pend.swap {n i j : Nat} {l : List Nat} {a : Act} {w : World} (h : Pend P md ops.toArray Q E M R0 n (i :: j :: l) a w) : Pend P md ops.toArray Q E M R0 n (j :: i :: l) a w :=
  fun fuel A hR hn => h fuel A hR.swap hn
theorem Pend.join2 (hR0 : Far R0) (hsel : Region.noSelect ops.toArray = true) (hQ : ∀ c a d v w, Q (.panic c) (a.put d v) w → Q (.panic c) a w) {n : Nat} {l : List Nat} {a : Act} {w : World} (i j : Nat) {di dj : Tmp} {Ri Rj : Value → List Own → Prop}
    (hH : Hp S w0 w L) (hne : di ≠ dj) (r1 : readyAt (tabOf md ops.toArray) l i = true) (hall : amongst l [i, j] (tabOf md ops.toArray) 0 = true) (p1 : preOK (tabOf md ops.toArray) E M [.x j] (i :: l) = true) (p2 : preOK (tabOf md ops.toArray) E M [.x i] (j :: l) = true)
    (xi : XS P ops Q i di dj S w0 L Ri a) (xj : XS P ops Q j dj di S w0 L Rj a)
    (h : ∀ v es v' es' w', Ri v es → Rj v' es' → Hp S w0 w' (L ++ es ++ es') → Pend P md ops.toArray Q E M R0 n (j :: i :: l) ((a.put (some di) v).put (some dj) v') w') : Pend P md ops.toArray Q E M R0 (n + 2) l a w := by
  have hH0 : Hp S w0 w (L ++ []) := by rw [List.append_nil]; exact hH
  refine Pend.fork2 hR0 (n := n + 1) (.x i) (.x j) rfl rfl trivial trivial r1 hall ?_ ?_
  · refine xi.here [] w hH0 _ fun v es w' hR hH' => ?_
    rw [List.append_nil] at hH'
    refine Pend.plan (n := n) hR0 hsel hQ [.x j] (i :: l) _ _ trivial (by simp [effects]) (by simp [marked]) p1 ?_
    exact xj.there v es w' hH' _ fun v' es' w'' hR' hH'' => h v es v' es' w'' hR hR' hH''
  · refine xj.here [] w hH0 _ fun v' es' w' hR' hH' => ?_
    rw [List.append_nil] at hH'
    refine Pend.plan (n := n) hR0 hsel hQ [.x i] (j :: l) _ _ trivial (by simp [effects]) (by simp [marked]) p2 ?_
    refine xi.there v' es' w' hH' _ fun v es w'' hR hH'' => ?_
    have h1 := h v es v' es' w'' hR hR' hH''.swap
    rw [Act.put_comm a v v' (by intro d h1 h2; cases h1; cases h2; exact hne rfl)] at h1
    exact h1.swap
def ROwn (T n s : Nat) (xs : List Value) (f : Value → Value) (v : Value) (es : List Own) : Prop := ∃ o cap cs, v = f (own o n cap) ∧ OwnC o n cap s cs xs ∧ es = [(o, T, cs)]
variable {i : Nat} {d dj : Tmp} {ty : TypeId} {pos : String} {af : Array Edge} {g : Option (Nat × Bool)} {x y : Operand} {t t' T : TypeId} {a : Act}
theorem xa_s2b {e : TypeId} {s : ByteArray} (ho : ops[i]? = some ⟨some d, .convert t t' x, ty, pos, af, g⟩) (hg : Region.wanted ⟨some d, .convert t t' x, ty, pos, af, g⟩ (yielded ops.toArray a.tmps) = true) (hx : a.eval x = .string s)
    (hu : P.underlying t = some .string) (hu' : P.underlying t' = some (.slice e)) (he : P.underlying e = some (.int .u8)) : XA P ops Q i d S w0 L (ROwn e s.size 1 (s.data.toList.map V8) id) a := fun L' w hH K h =>
  plan_s2b ho hg hH hx hu hu' he fun b cap cs w' hO hH' => fun w2 hw2 => h _ _ w2 ⟨some b, cap, cs, rfl, hO, rfl⟩ (hH'.call hw2)
theorem xs_s2b {e : TypeId} {s : ByteArray} (ho : ops[i]? = some ⟨some d, .convert t t' x, ty, pos, af, g⟩) (hg : Region.wanted ⟨some d, .convert t t' x, ty, pos, af, g⟩ (yielded ops.toArray a.tmps) = true) (hg' : ∀ u, Region.wanted ⟨some d, .convert t t' x, ty, pos, af, g⟩ (yielded ops.toArray (a.put (some dj) u).tmps) = true)
    (hx : a.eval x = .string s) (hx' : ∀ u, (a.put (some dj) u).eval x = .string s) (hu : P.underlying t = some .string) (hu' : P.underlying t' = some (.slice e)) (he : P.underlying e = some (.int .u8)) : XS P ops Q i d dj S w0 L (ROwn e s.size 1 (s.data.toList.map V8) id) a :=
  ⟨xa_s2b ho hg hx hu hu' he, fun u => xa_s2b ho (hg' u) (hx' u) hu hu' he⟩
end
end Go.Proofs.YtmoaddicejohgaaDoor
set_option linter.unusedSimpArgs false
set_option linter.unusedVariables false
set_option maxRecDepth 100000
set_option maxHeartbeats 4000000
namespace Go.Proofs.YtmoaddicejohgaaDoor
open Go
open List (getD_cons_zero getD_cons_succ set_cons_zero set_cons_succ)
theorem fit_a (a b c hd ca : ByteArray) (size number ex : Int) (ft : Bool) (w : World) (hs1 : -9223372036854775808 ≤ size) (hs2 : size ≤ 9223372036854775807) (hz : 0 < min hd.size 60) : Ret Tryd.prog 11 #[.agg #[.string a, .string b, .string c, .string hd, I64 size, I64 number, .string ca, I64 ex, BV ft]] w fun v w' => ∃ s : ByteArray, v = .string s ∧ Chg [] w w' ∧ s.size ≤ 66 := by
 have hex : (hd.extract 0 (min hd.size 60)).size = min hd.size 60 := by rw [ByteArray.size_extract]; omega
 have hex2 : (hd.extract 0 (min hd.size 60)).data.toList.length = min hd.size 60 := hex
 refine Ret.enter Tryd.func11 rfl ?_
 simp only [Tryd.ntmps11, fe, Nat.reduceAdd, Nat.reduceSub]
 have hH := Hp.start [] w
 refine wp_seq_k ?_
 intro K1 hK1
 refine wrt [.x 0, .p 1] ?_
 refine plan_box rfl rfl hH rfl ?_
 clear hH
 intro b2 w3 hH
 (try simp only [nf, nh, Value.cells, arrB_set] at hH ⊢)
 refine pa ?_;simp only [nf]
 refine plan_nil hH ?_
 clear hH
 intro w4 hH
 refine hK1 _ _ ?_
 (try clear hK1 K1)
 refine wp_seq_k ?_
 intro K5 hK5
 refine wrt [.p 0, .q 1, .p 2, .q 3, .p 4, .p 5, .p 6, .p 7] ?_
 refine pp rfl rfl (pr_fieldAddr 3 rfl Tryd.underlying32 rfl rfl sz9) ?_;simp only [nf]
 refine pq rfl rfl (qr_load1 rfl Tryd.underlying9 rfl ((hH.blk 0 rfl).cell rfl)) ?_;simp only [nf]
 refine pp rfl rfl (pr_fieldAddr 3 rfl Tryd.underlying32 rfl rfl sz9) ?_;simp only [nf]
 refine pq rfl rfl (qr_load1 rfl Tryd.underlying9 rfl ((hH.blk 0 rfl).cell rfl)) ?_;simp only [nf]
 refine pp rfl rfl (pr_len_str rfl Tryd.underlying9) ?_;simp only [nf]
 refine pp rfl rfl (by first | exact pr_min_n (n := 60) rfl rfl | exact pr_min rfl rfl) ?_;simp only [nf]
 refine pp rfl rfl (pr_slice_str_h rfl rfl Tryd.underlying9 (by first | omega | (first | (rw [hex]; omega) | (simp; done) | (simp; omega)))) ?_;simp only [nf]
 refine pa ?_;simp only [nf]
 refine plan_nil hH ?_
 clear hH
 intro w6 hH
 refine hK5 _ _ ?_
 (try clear hK5 K5)
 refine wp_seq_k ?_
 intro K7 hK7
 refine wp_seq_k ?_
 intro K8 hK8
 refine wrt [.p 0, .q 1, .p 2, .p 3, .p 4, .q 5, .p 6, .p 7, .p 8, .p 9, .q 10, .p 11, .p 12] ?_
 refine pp rfl rfl (pr_fieldAddr 8 rfl Tryd.underlying32 rfl rfl sz4) ?_;simp only [nf]
 refine pq rfl rfl (qr_load1 rfl Tryd.underlying4 rfl ((hH.blk 0 rfl).cell rfl)) ?_;simp only [nf]
 refine pp rfl rfl (pr_not rfl) ?_;simp only [nf]
 refine pm ?_;simp only [nf]
 refine plan_pc_f rfl rfl rfl (fun hb => by have hb' := hb; try simp only [gsl] at hb'; rw [hb]; exact (pr_fieldAddr 4 rfl Tryd.underlying32 rfl rfl sz3)) ?_
 (try simp only [nf])
 refine plan_qc_f rfl rfl rfl (fun hb => by have hb' := hb; try simp only [gsl] at hb'; rw [hb]; exact (qr_load1 rfl Tryd.underlying3 rfl ((hH.blk 0 rfl).cell rfl))) ?_
 (try simp only [nf])
 refine plan_pc_f rfl rfl rfl (fun hb => by have hb' := hb; try simp only [gsl] at hb'; rw [hb]; exact (pr_bin rfl rfl (by first | exact bin_lss_n (n := 1)  | exact bin_lss_i))) ?_
 (try simp only [nf])
 refine pp rfl rfl (pr_pick_or rfl rfl rfl) ?_;simp only [nf]
 refine pm ?_;simp only [nf]
 refine plan_pc_f rfl rfl rfl (fun hb => by have hb' := hb; try simp only [gsl] at hb'; rw [hb]; exact (pr_fieldAddr 4 rfl Tryd.underlying32 rfl rfl sz3)) ?_
 (try simp only [nf])
 refine plan_qc_f rfl rfl rfl (fun hb => by have hb' := hb; try simp only [gsl] at hb'; rw [hb]; exact (qr_load1 rfl Tryd.underlying3 rfl ((hH.blk 0 rfl).cell rfl))) ?_
 (try simp only [nf])
 refine plan_pc_f rfl rfl rfl (fun hb => by have hb' := hb; try simp only [gsl] at hb'; rw [hb]; exact (pr_bin rfl rfl (by first | exact bin_gtr_n (n := 4)  | exact bin_gtr_i))) ?_
 (try simp only [nf])
 refine pp rfl rfl (pr_pick_or rfl rfl rfl) ?_;simp only [nf]
 refine plan_nil hH ?_
 clear hH
 intro w9 hH
 refine hK8 _ _ ?_
 (try clear hK8 K8)
 refine wp_cond_split rfl (fun hc10 => ?_) (fun hc10 => ?_)
 ·
  (try simp only [cnd, gsl] at hc10)
  refine wp_seq_k ?_
  intro K11 hK11
  refine wrt [.p 0, .p 1] ?_
  refine pm (pa ?_);simp only [nf]
  refine plan_nil hH ?_
  clear hH
  intro w12 hH
  refine hK11 _ _ ?_
  (try clear hK11 K11)
  refine wp_ret ?_
  (try simp only [Exit.then, Exit.inBlock, ↓reduceIte, Nat.reduceEqDiff])
  refine BP.ret1 rfl rfl ?_
  exact ⟨_, rfl, hH.chg, by rw [hex]; omega⟩
 ·
  (try simp only [cnd, gsl] at hc10)
  have hq := hc10
  obtain ⟨sz, rfl⟩ : ∃ k : Nat, size = k := ⟨size.toNat, by omega⟩
  refine wp_skip ?_
  refine hK7 _ _ ?_
  (try clear hK7 K7)
  refine wp_seq_k ?_
  intro K13 hK13
  refine wrt [.x 0, .e 1, .p 2, .e 3, .p 4] ?_
  refine plan_buildSlice rfl rfl hH Tryd.underlying22 (by rfl) (bs1 33) ?_
  clear hH
  intro b14 w15 hH
  (try simp only [nf, nh, Value.cells, arrB_set] at hH ⊢)
  refine plan_mark 1 rfl rfl hH rfl rfl Tryd.underlying22 Tryd.underlying5 ?_
  clear hH
  intro w16 hH
  (try simp only [nf] at hH ⊢)
  (try simp only [nf, nh, Value.cells, arrB_set] at hH ⊢)
  refine pm ?_;simp only [nf]
  refine plan_append 1 rfl rfl hH rfl (OwnC.of_bytes rfl) (fun w' hH => src_string _) rfl rfl Tryd.underlying22 Tryd.underlying9 (.inr rfl) sz5 bz5 ze5 rfl (by first | omega | (simp; omega) | (rw [hex2]; omega)) (by first | omega | (simp; omega) | (rw [hex2]; omega)) ?_
  clear hH
  intro o17 cap18 cs19 w20 hO21 hH
  (try simp only [nf] at hH ⊢)
  (try simp only [nf, nh, Value.cells, arrB_set] at hH ⊢)
  try rw [← List.map_append] at hO21
  (try simp only [Nat.zero_add, List.nil_append, List.length_nil] at hO21 ⊢)
  refine pa ?_;simp only [nf]
  refine plan_nil hH ?_
  clear hH
  intro w22 hH
  refine hK13 _ _ ?_
  (try clear hK13 K13)
  refine wp_seq_k ?_
  intro K23 hK23
  refine wp_seq_k ?_
  intro K24 hK24
  refine wrt [.p 0, .p 1, .p 2] ?_
  refine pm ?_;simp only [nf]
  refine pp rfl rfl (pr_len_str rfl Tryd.underlying9) ?_;simp only [nf]
  refine pp rfl rfl (pr_bin rfl rfl (by first | exact bin_gtr_n (n := 0)  | exact bin_gtr_i)) ?_;simp only [nf]
  refine plan_nil hH ?_
  clear hH
  intro w25 hH
  refine hK24 _ _ ?_
  (try clear hK24 K24)
  refine wp_cond_true (by show BV _ = _; rw [hex]; exact congrArg BV (decide_eq_true hz)) ?_
  refine wrt [.p 0, .x 1, .p 2] ?_
  refine pm ?_;simp only [nf]
  refine plan_s2b rfl rfl hH rfl Tryd.underlying9 Tryd.underlying22 Tryd.underlying5 ?_
  clear hH
  intro b26 cap27 cs28 w29 hO30 hH
  (try simp only [nf] at hH ⊢)
  (try simp only [nf, nh, Value.cells, arrB_set] at hH ⊢)
  refine pa ?_;simp only [nf]
  refine plan_nil hH ?_
  clear hH
  intro w31 hH
  rw [hex] at hO30 ⊢
  refine hK23 _ _ ?_
  (try clear hK23 K23)
  refine wp_seq_k ?_
  intro K32 hK32
  refine wrp [.p 0, .p 1, .p 2, .p 6, .q 3, .p 4, .p 5, .q 7, .p 8, .p 9, .p 10, .p 11, .e 12] ?_
  refine pm (pm ?_);simp only [nf]
  refine pp rfl rfl (pr_idx_Sl (i := 0) (OwnC.sl hH 2 rfl hO30) rfl rfl Tryd.underlying22 sz5 (by first | omega | (first | (rw [hex]; omega) | (simp; done) | (simp; omega)))) ?_;simp only [nf]
  refine pp rfl rfl (pr_fieldAddr 4 rfl Tryd.underlying32 rfl rfl sz3) ?_;simp only [nf]
  refine pq rfl rfl (qr_load1 rfl Tryd.underlying5 rfl (Sl.cell (i := 0) (OwnC.sl hH 2 rfl hO30) (by first | omega | (first | (rw [hex]; omega) | (simp; done) | (simp; omega))))) ?_;simp only [nf]
  refine pp rfl rfl (pr_bin rfl rfl (bin_quo_u8 _ 4 (by decide))) ?_;simp only [nf]
  refine pp rfl rfl (pr_bin rfl rfl (bin_mul_u8 _ 4)) ?_;simp only [nf]
  refine pq rfl rfl (qr_load1 rfl Tryd.underlying3 rfl ((hH.blk 0 rfl).cell rfl)) ?_;simp only [nf]
  refine pp rfl rfl (pr_bin rfl rfl (by first | exact bin_sub_n (n := 1) (by first | omega | (first | (rw [hex]; omega) | (simp; done) | (simp; omega))) (by first | omega | (first | (rw [hex]; omega) | (simp; done) | (simp; omega))) | exact bin_sub_i (by first | omega | (first | (rw [hex]; omega) | (simp; done) | (simp; omega))) (by first | omega | (first | (rw [hex]; omega) | (simp; done) | (simp; omega))))) ?_;simp only [nf]
  refine pp rfl rfl (pr_conv rfl (by first | exact cnv_n_u8 Tryd.underlying3 Tryd.underlying5 | exact cnv_i_u8 Tryd.underlying3 Tryd.underlying5)) ?_;simp only [nf]
  refine pp rfl rfl (pr_bin rfl rfl (bin_add_u8 _ _)) ?_;simp only [nf]
  refine pp rfl rfl (pr_idx_Sl (i := 0) (OwnC.sl hH 2 rfl hO30) rfl rfl Tryd.underlying22 sz5 (by first | omega | (first | (rw [hex]; omega) | (simp; done) | (simp; omega)))) ?_;simp only [nf]
  refine plan_storeO 2 (j := 0) rfl rfl hH rfl rfl hO30 rfl sz5 (by first | omega | (first | (rw [hex]; omega) | (simp; done) | (simp; omega))) ?_
  clear hH
  intro cs34 w33 hO35 hH
  (try simp only [nf, nh, Value.cells, arrB_set] at hH ⊢)
  refine plan_nil hH ?_
  clear hH
  intro w36 hH
  refine hK32 _ _ ?_
  (try clear hK32 K32)
  refine wp_seq_k ?_
  intro K37 hK37
  refine wp_seq_k ?_
  intro K38 hK38
  refine wrt [.p 0, .q 1, .p 2, .p 3] ?_
  refine pp rfl rfl (pr_fieldAddr 4 rfl Tryd.underlying32 rfl rfl sz3) ?_;simp only [nf]
  refine pq rfl rfl (qr_load1 rfl Tryd.underlying3 rfl ((hH.blk 0 rfl).cell rfl)) ?_;simp only [nf]
  refine pp rfl rfl (pr_bin rfl rfl (by first | exact bin_sub_n (n := 1) (by first | omega | (first | (rw [hex]; omega) | (simp; done) | (simp; omega))) (by first | omega | (first | (rw [hex]; omega) | (simp; done) | (simp; omega))) | exact bin_sub_i (by first | omega | (first | (rw [hex]; omega) | (simp; done) | (simp; omega))) (by first | omega | (first | (rw [hex]; omega) | (simp; done) | (simp; omega))))) ?_;simp only [nf]
  refine pa ?_;simp only [nf]
  refine plan_nil hH ?_
  clear hH
  intro w39 hH
  rw [show ((sz - 1 : Nat) : Int) = (sz : Int) - 1 - ((0 : Nat) : Int) by omega]
  refine hK38 _ _ ?_
  (try clear hK38 K38)
  refine wp_block ?_
  obtain ⟨kc40, hkc41, hN⟩ := hH.name 0 rfl
  replace hH := hN; clear hN; simp only [List.set_cons_zero, List.set_cons_succ] at hH
  refine wp_loopT [4, 5] [51, 52, 53, 54, 55, 56, 57, 58, 59, 60, 61, 62, 63] (fun (n42 : Nat) (vs : List Value) (w' : World) => ∃ (k : Nat) (o : Option Nat) (c' : Nat) (cs : Array Value), vs = [own o (min hd.size 60 + k) c', I64 ((sz : Int) - 1 - (k : Nat))] ∧ Hp [] w w' [(some b2, 32, kc40), (o17, 5, cs19), (o, 5, cs)] ∧ n42 = sz - k ∧ k ≤ sz ∧ ∃ l : List UInt8, OwnC o (min hd.size 60 + k) c' 1 cs (l.map V8)) (sz - 0) (by kernel_rfl) ?_ ?_
  ·
   simp only [ga]
   refine ⟨0, some b26, cap27, cs34, rfl, ?_, rfl, ?_, ?_⟩
   ·
    exact hH.take 3
   · first | omega | (omega)
   · first | omega | (exact ⟨_, hO35⟩)
  clear hH
  intro n42 vs43 w44 hR45 d0
  obtain ⟨k, o, c', cs, rfl, hH, hn46, hf47, hOe⟩ := hR45
  simp only [putAll, putD, List.set_cons_zero, List.set_cons_succ, Nat.zero_add, Nat.reduceAdd]
  obtain ⟨l, hO⟩ := hOe
  subst hkc41
  refine wp_seq_k ?_
  intro K48 hK48
  refine wp_seq_k ?_
  intro K49 hK49
  refine wrt [.p 0, .p 1] ?_
  refine pm ?_;simp only [nf]
  refine pp rfl rfl (pr_bin rfl rfl (by first | exact bin_geq_n (n := 0)  | exact bin_geq_i)) ?_;simp only [nf]
  refine plan_nil hH ?_
  clear hH
  intro w50 hH
  refine hK49 _ _ ?_
  (try clear hK49 K49)
  refine wp_cond_split rfl (fun hc51 => ?_) (fun hc51 => ?_)
  ·
   (try simp only [cnd, gsl] at hc51)
   simp only [show ((sz : Int) - 1 - (k : Nat)) = ((sz - 1 - k : Nat) : Int) by omega]
   refine wp_skip ?_
   refine hK48 _ _ ?_
   (try clear hK48 K48)
   refine wp_seq_k ?_
   intro K52 hK52
   refine wp_block ?_
   refine wrt [.p 0, .p 1, .q 2, .p 3, .p 4, .p 5, .p 6, .x 7, .e 8, .p 9] ?_
   refine pm ?_;simp only [nf]
   refine pp rfl rfl (pr_fieldAddr 5 rfl Tryd.underlying32 rfl rfl sz3) ?_;simp only [nf]
   refine pq rfl rfl (qr_load1 rfl Tryd.underlying3 rfl ((hH.blk 0 rfl).cell rfl)) ?_;simp only [nf]
   refine pm ?_;simp only [nf]
   refine pp rfl rfl (pr_bin rfl rfl (by first | exact bin_mul_n (m := 8) (by first | omega | (first | (rw [hex]; omega) | (simp; done) | (simp; omega))) | exact bin_mul_i (by first | omega | (first | (rw [hex]; omega) | (simp; done) | (simp; omega))) (by first | omega | (first | (rw [hex]; omega) | (simp; done) | (simp; omega))))) ?_;simp only [nf]
   refine pp rfl rfl (pr_bin rfl rfl (by first | exact bin_shr_n (by first | omega | (first | (rw [hex]; omega) | (simp; done) | (simp; omega))) | exact bin_shr_i (by first | omega | (first | (rw [hex]; omega) | (simp; done) | (simp; omega))))) ?_;simp only [nf]
   refine pp rfl rfl (pr_conv rfl (by first | exact cnv_n_u8 Tryd.underlying3 Tryd.underlying5 | exact cnv_i_u8 Tryd.underlying3 Tryd.underlying5)) ?_;simp only [nf]
   refine plan_buildSlice rfl rfl hH Tryd.underlying22 (by rfl) (bs1 _) ?_
   clear hH
   intro b53 w54 hH
   (try simp only [nf, nh, Value.cells, arrB_set] at hH ⊢)
   refine plan_append 2 rfl rfl hH rfl hO (fun w' hH => ((OwnC.sl hH 3 rfl (OwnC.of_bytes rfl))).src) rfl rfl Tryd.underlying22 Tryd.underlying22 (.inl ⟨_, rfl⟩) sz5 bz5 ze5 rfl (by first | omega | (simp; omega) | (rw [hex2]; omega)) (by first | omega | (simp; omega) | (rw [hex2]; omega)) ?_
   clear hH
   intro o55 cap56 cs57 w58 hO59 hH
   (try simp only [nf] at hH ⊢)
   (try simp only [nf, nh, Value.cells, arrB_set] at hH ⊢)
   try rw [← List.map_append] at hO59
   (try simp only [Nat.zero_add, List.nil_append, List.length_nil] at hO59 ⊢)
   refine pa ?_;simp only [nf]
   refine plan_nil hH ?_
   clear hH
   intro w60 hH
   refine hK52 _ _ ?_
   (try clear hK52 K52)
   refine wrt [.p 0, .p 1, .p 2] ?_
   refine pm ?_;simp only [nf]
   refine pp rfl rfl (pr_bin rfl rfl (by first | exact bin_sub_n (n := 1) (by first | omega | (first | (rw [hex]; omega) | (simp; done) | (simp; omega))) (by first | omega | (first | (rw [hex]; omega) | (simp; done) | (simp; omega))) | exact bin_sub_i (by first | omega | (first | (rw [hex]; omega) | (simp; done) | (simp; omega))) (by first | omega | (first | (rw [hex]; omega) | (simp; done) | (simp; omega))))) ?_;simp only [nf]
   refine pa ?_;simp only [nf]
   refine plan_nil hH ?_
   clear hH
   intro w61 hH
   (try simp only [Exit.then, Exit.inBlock, ↓reduceIte, Nat.reduceEqDiff])
   rw [show (((sz - 1 - k : Nat) : Int) - 1) = (sz : Int) - 1 - ((k + 1 : Nat) : Int) by omega]
   refine ⟨sz - (k + 1), ?_, _, rfl, by kernel_rfl, ?_⟩
   · first | omega | (omega)
   simp only [ga]
   refine ⟨k + 1, o55, cap56, cs57, rfl, ?_, rfl, ?_, ?_⟩
   ·
    exact hH.take 3
   · first | omega | (omega)
   · first | omega | (exact ⟨_, hO59⟩)
  ·
   (try simp only [cnd, gsl] at hc51)
   refine wp_exit ?_
   (try simp only [Exit.then, Exit.inBlock, ↓reduceIte, Nat.reduceEqDiff])
   refine hK37 _ _ ?_
   (try clear hK37 K37)
   refine wp_seq_k ?_
   intro K62 hK62
   refine wrt [.p 0, .q 1, .p 2] ?_
   refine pm ?_;simp only [nf]
   refine pq rfl rfl (qr_b2s (OwnC.sl hH 2 rfl hO) rfl Tryd.underlying22 Tryd.underlying5 Tryd.underlying9) ?_;simp only [nf]
   refine pa ?_;simp only [nf]
   refine plan_nil hH ?_
   clear hH
   intro w63 hH
   refine hK62 _ _ ?_
   (try clear hK62 K62)
   refine wp_ret ?_
   (try simp only [Exit.then, Exit.inBlock, ↓reduceIte, Nat.reduceEqDiff])
   refine BP.ret1 rfl rfl ?_
   refine ⟨_, rfl, hH.chg, ?_⟩
   have hln := hO.len
   rw [List.length_map] at hln
   rw [bsz]; omega
theorem fit_b (a b c hd ca : ByteArray) (size number ex : Int) (ft : Bool) (w : World) (hs1 : -9223372036854775808 ≤ size) (hs2 : size ≤ 9223372036854775807) (hz : min hd.size 60 = 0) : Ret Tryd.prog 11 #[.agg #[.string a, .string b, .string c, .string hd, I64 size, I64 number, .string ca, I64 ex, BV ft]] w fun v w' => ∃ s : ByteArray, v = .string s ∧ Chg [] w w' ∧ s.size ≤ 66 := by
 have hex : (hd.extract 0 (min hd.size 60)).size = min hd.size 60 := by rw [ByteArray.size_extract]; omega
 have hex2 : (hd.extract 0 (min hd.size 60)).data.toList.length = min hd.size 60 := hex
 refine Ret.enter Tryd.func11 rfl ?_
 simp only [Tryd.ntmps11, fe, Nat.reduceAdd, Nat.reduceSub]
 have hH := Hp.start [] w
 refine wp_seq_k ?_
 intro K1 hK1
 refine wrt [.x 0, .p 1] ?_
 refine plan_box rfl rfl hH rfl ?_
 clear hH
 intro b2 w3 hH
 (try simp only [nf, nh, Value.cells, arrB_set] at hH ⊢)
 refine pa ?_;simp only [nf]
 refine plan_nil hH ?_
 clear hH
 intro w4 hH
 refine hK1 _ _ ?_
 (try clear hK1 K1)
 refine wp_seq_k ?_
 intro K5 hK5
 refine wrt [.p 0, .q 1, .p 2, .q 3, .p 4, .p 5, .p 6, .p 7] ?_
 refine pp rfl rfl (pr_fieldAddr 3 rfl Tryd.underlying32 rfl rfl sz9) ?_;simp only [nf]
 refine pq rfl rfl (qr_load1 rfl Tryd.underlying9 rfl ((hH.blk 0 rfl).cell rfl)) ?_;simp only [nf]
 refine pp rfl rfl (pr_fieldAddr 3 rfl Tryd.underlying32 rfl rfl sz9) ?_;simp only [nf]
 refine pq rfl rfl (qr_load1 rfl Tryd.underlying9 rfl ((hH.blk 0 rfl).cell rfl)) ?_;simp only [nf]
 refine pp rfl rfl (pr_len_str rfl Tryd.underlying9) ?_;simp only [nf]
 refine pp rfl rfl (by first | exact pr_min_n (n := 60) rfl rfl | exact pr_min rfl rfl) ?_;simp only [nf]
 refine pp rfl rfl (pr_slice_str_h rfl rfl Tryd.underlying9 (by first | omega | (first | (rw [hex]; omega) | (simp; done) | (simp; omega)))) ?_;simp only [nf]
 refine pa ?_;simp only [nf]
 refine plan_nil hH ?_
 clear hH
 intro w6 hH
 refine hK5 _ _ ?_
 (try clear hK5 K5)
 refine wp_seq_k ?_
 intro K7 hK7
 refine wp_seq_k ?_
 intro K8 hK8
 refine wrt [.p 0, .q 1, .p 2, .p 3, .p 4, .q 5, .p 6, .p 7, .p 8, .p 9, .q 10, .p 11, .p 12] ?_
 refine pp rfl rfl (pr_fieldAddr 8 rfl Tryd.underlying32 rfl rfl sz4) ?_;simp only [nf]
 refine pq rfl rfl (qr_load1 rfl Tryd.underlying4 rfl ((hH.blk 0 rfl).cell rfl)) ?_;simp only [nf]
 refine pp rfl rfl (pr_not rfl) ?_;simp only [nf]
 refine pm ?_;simp only [nf]
 refine plan_pc_f rfl rfl rfl (fun hb => by have hb' := hb; try simp only [gsl] at hb'; rw [hb]; exact (pr_fieldAddr 4 rfl Tryd.underlying32 rfl rfl sz3)) ?_
 (try simp only [nf])
 refine plan_qc_f rfl rfl rfl (fun hb => by have hb' := hb; try simp only [gsl] at hb'; rw [hb]; exact (qr_load1 rfl Tryd.underlying3 rfl ((hH.blk 0 rfl).cell rfl))) ?_
 (try simp only [nf])
 refine plan_pc_f rfl rfl rfl (fun hb => by have hb' := hb; try simp only [gsl] at hb'; rw [hb]; exact (pr_bin rfl rfl (by first | exact bin_lss_n (n := 1)  | exact bin_lss_i))) ?_
 (try simp only [nf])
 refine pp rfl rfl (pr_pick_or rfl rfl rfl) ?_;simp only [nf]
 refine pm ?_;simp only [nf]
 refine plan_pc_f rfl rfl rfl (fun hb => by have hb' := hb; try simp only [gsl] at hb'; rw [hb]; exact (pr_fieldAddr 4 rfl Tryd.underlying32 rfl rfl sz3)) ?_
 (try simp only [nf])
 refine plan_qc_f rfl rfl rfl (fun hb => by have hb' := hb; try simp only [gsl] at hb'; rw [hb]; exact (qr_load1 rfl Tryd.underlying3 rfl ((hH.blk 0 rfl).cell rfl))) ?_
 (try simp only [nf])
 refine plan_pc_f rfl rfl rfl (fun hb => by have hb' := hb; try simp only [gsl] at hb'; rw [hb]; exact (pr_bin rfl rfl (by first | exact bin_gtr_n (n := 4)  | exact bin_gtr_i))) ?_
 (try simp only [nf])
 refine pp rfl rfl (pr_pick_or rfl rfl rfl) ?_;simp only [nf]
 refine plan_nil hH ?_
 clear hH
 intro w9 hH
 refine hK8 _ _ ?_
 (try clear hK8 K8)
 refine wp_cond_split rfl (fun hc10 => ?_) (fun hc10 => ?_)
 ·
  (try simp only [cnd, gsl] at hc10)
  refine wp_seq_k ?_
  intro K11 hK11
  refine wrt [.p 0, .p 1] ?_
  refine pm (pa ?_);simp only [nf]
  refine plan_nil hH ?_
  clear hH
  intro w12 hH
  refine hK11 _ _ ?_
  (try clear hK11 K11)
  refine wp_ret ?_
  (try simp only [Exit.then, Exit.inBlock, ↓reduceIte, Nat.reduceEqDiff])
  refine BP.ret1 rfl rfl ?_
  exact ⟨_, rfl, hH.chg, by rw [hex]; omega⟩
 ·
  (try simp only [cnd, gsl] at hc10)
  have hq := hc10
  obtain ⟨sz, rfl⟩ : ∃ k : Nat, size = k := ⟨size.toNat, by omega⟩
  refine wp_skip ?_
  refine hK7 _ _ ?_
  (try clear hK7 K7)
  refine wp_seq_k ?_
  intro K13 hK13
  refine wrt [.x 0, .e 1, .p 2, .e 3, .p 4] ?_
  refine plan_buildSlice rfl rfl hH Tryd.underlying22 (by rfl) (bs1 33) ?_
  clear hH
  intro b14 w15 hH
  (try simp only [nf, nh, Value.cells, arrB_set] at hH ⊢)
  refine plan_mark 1 rfl rfl hH rfl rfl Tryd.underlying22 Tryd.underlying5 ?_
  clear hH
  intro w16 hH
  (try simp only [nf] at hH ⊢)
  (try simp only [nf, nh, Value.cells, arrB_set] at hH ⊢)
  refine pm ?_;simp only [nf]
  refine plan_append 1 rfl rfl hH rfl (OwnC.of_bytes rfl) (fun w' hH => src_string _) rfl rfl Tryd.underlying22 Tryd.underlying9 (.inr rfl) sz5 bz5 ze5 rfl (by first | omega | (simp; omega) | (rw [hex2]; omega)) (by first | omega | (simp; omega) | (rw [hex2]; omega)) ?_
  clear hH
  intro o17 cap18 cs19 w20 hO21 hH
  (try simp only [nf] at hH ⊢)
  (try simp only [nf, nh, Value.cells, arrB_set] at hH ⊢)
  try rw [← List.map_append] at hO21
  (try simp only [Nat.zero_add, List.nil_append, List.length_nil] at hO21 ⊢)
  refine pa ?_;simp only [nf]
  refine plan_nil hH ?_
  clear hH
  intro w22 hH
  rw [show ([33] : List UInt8).length + (hd.extract 0 (min hd.size 60)).size = 1 + min hd.size 60 by rw [hex]; rfl] at hO21 ⊢
  refine hK13 _ _ ?_
  (try clear hK13 K13)
  refine wp_seq_k ?_
  intro K23 hK23
  refine wp_seq_k ?_
  intro K24 hK24
  refine wrt [.p 0, .p 1, .p 2] ?_
  refine pm ?_;simp only [nf]
  refine pp rfl rfl (pr_len_str rfl Tryd.underlying9) ?_;simp only [nf]
  refine pp rfl rfl (pr_bin rfl rfl (by first | exact bin_gtr_n (n := 0)  | exact bin_gtr_i)) ?_;simp only [nf]
  refine plan_nil hH ?_
  clear hH
  intro w25 hH
  refine hK24 _ _ ?_
  (try clear hK24 K24)
  refine wp_cond_false (by show BV _ = _; rw [hex]; exact congrArg BV (decide_eq_false (by omega))) ?_
  refine wp_skip ?_
  refine hK23 _ _ ?_
  (try clear hK23 K23)
  refine wp_seq_k ?_
  intro K26 hK26
  refine wrp [.p 0, .p 1, .p 2, .p 6, .q 3, .p 4, .p 5, .q 7, .p 8, .p 9, .p 10, .p 11, .e 12] ?_
  refine pm (pm ?_);simp only [nf]
  refine pp rfl rfl (pr_idx_Sl (i := 0) (OwnC.sl hH 1 rfl hO21) rfl rfl Tryd.underlying22 sz5 (by first | omega | (first | (rw [hex]; omega) | (simp; done) | (simp; omega)))) ?_;simp only [nf]
  refine pp rfl rfl (pr_fieldAddr 4 rfl Tryd.underlying32 rfl rfl sz3) ?_;simp only [nf]
  refine pq rfl rfl (qr_load1 rfl Tryd.underlying5 rfl (Sl.cell (i := 0) (OwnC.sl hH 1 rfl hO21) (by first | omega | (first | (rw [hex]; omega) | (simp; done) | (simp; omega))))) ?_;simp only [nf]
  refine pp rfl rfl (pr_bin rfl rfl (bin_quo_u8 _ 4 (by decide))) ?_;simp only [nf]
  refine pp rfl rfl (pr_bin rfl rfl (bin_mul_u8 _ 4)) ?_;simp only [nf]
  refine pq rfl rfl (qr_load1 rfl Tryd.underlying3 rfl ((hH.blk 0 rfl).cell rfl)) ?_;simp only [nf]
  refine pp rfl rfl (pr_bin rfl rfl (by first | exact bin_sub_n (n := 1) (by first | omega | (first | (rw [hex]; omega) | (simp; done) | (simp; omega))) (by first | omega | (first | (rw [hex]; omega) | (simp; done) | (simp; omega))) | exact bin_sub_i (by first | omega | (first | (rw [hex]; omega) | (simp; done) | (simp; omega))) (by first | omega | (first | (rw [hex]; omega) | (simp; done) | (simp; omega))))) ?_;simp only [nf]
  refine pp rfl rfl (pr_conv rfl (by first | exact cnv_n_u8 Tryd.underlying3 Tryd.underlying5 | exact cnv_i_u8 Tryd.underlying3 Tryd.underlying5)) ?_;simp only [nf]
  refine pp rfl rfl (pr_bin rfl rfl (bin_add_u8 _ _)) ?_;simp only [nf]
  refine pp rfl rfl (pr_idx_Sl (i := 0) (OwnC.sl hH 1 rfl hO21) rfl rfl Tryd.underlying22 sz5 (by first | omega | (first | (rw [hex]; omega) | (simp; done) | (simp; omega)))) ?_;simp only [nf]
  refine plan_storeO 1 (j := 0) rfl rfl hH rfl rfl hO21 rfl sz5 (by first | omega | (first | (rw [hex]; omega) | (simp; done) | (simp; omega))) ?_
  clear hH
  intro cs28 w27 hO29 hH
  (try simp only [nf, nh, Value.cells, arrB_set] at hH ⊢)
  refine plan_nil hH ?_
  clear hH
  intro w30 hH
  refine hK26 _ _ ?_
  (try clear hK26 K26)
  refine wp_seq_k ?_
  intro K31 hK31
  refine wp_seq_k ?_
  intro K32 hK32
  refine wrt [.p 0, .q 1, .p 2, .p 3] ?_
  refine pp rfl rfl (pr_fieldAddr 4 rfl Tryd.underlying32 rfl rfl sz3) ?_;simp only [nf]
  refine pq rfl rfl (qr_load1 rfl Tryd.underlying3 rfl ((hH.blk 0 rfl).cell rfl)) ?_;simp only [nf]
  refine pp rfl rfl (pr_bin rfl rfl (by first | exact bin_sub_n (n := 1) (by first | omega | (first | (rw [hex]; omega) | (simp; done) | (simp; omega))) (by first | omega | (first | (rw [hex]; omega) | (simp; done) | (simp; omega))) | exact bin_sub_i (by first | omega | (first | (rw [hex]; omega) | (simp; done) | (simp; omega))) (by first | omega | (first | (rw [hex]; omega) | (simp; done) | (simp; omega))))) ?_;simp only [nf]
  refine pa ?_;simp only [nf]
  refine plan_nil hH ?_
  clear hH
  intro w33 hH
  rw [show ((sz - 1 : Nat) : Int) = (sz : Int) - 1 - ((0 : Nat) : Int) by omega]
  refine hK32 _ _ ?_
  (try clear hK32 K32)
  refine wp_block ?_
  obtain ⟨kc34, hkc35, hN⟩ := hH.name 0 rfl
  replace hH := hN; clear hN; simp only [List.set_cons_zero, List.set_cons_succ] at hH
  refine wp_loopT [4, 5] [51, 52, 53, 54, 55, 56, 57, 58, 59, 60, 61, 62, 63] (fun (n36 : Nat) (vs : List Value) (w' : World) => ∃ (k : Nat) (o : Option Nat) (c' : Nat) (cs : Array Value), vs = [own o ((1 + (min hd.size 60)) + k) c', I64 ((sz : Int) - 1 - (k : Nat))] ∧ Hp [] w w' [(some b2, 32, kc34), (o, 5, cs)] ∧ n36 = sz - k ∧ k ≤ sz ∧ ∃ l : List UInt8, OwnC o ((1 + (min hd.size 60)) + k) c' 1 cs (l.map V8)) (sz - 0) (by kernel_rfl) ?_ ?_
  ·
   simp only [ga]
   refine ⟨0, o17, cap18, cs28, rfl, ?_, rfl, ?_, ?_⟩
   ·
    exact hH.take 2
   · first | omega | (omega)
   · first | omega | (exact ⟨_, hO29⟩)
  clear hH
  intro n36 vs37 w38 hR39 d0
  obtain ⟨k, o, c', cs, rfl, hH, hn40, hf41, hOe⟩ := hR39
  simp only [putAll, putD, List.set_cons_zero, List.set_cons_succ, Nat.zero_add, Nat.reduceAdd]
  obtain ⟨l, hO⟩ := hOe
  subst hkc35
  refine wp_seq_k ?_
  intro K42 hK42
  refine wp_seq_k ?_
  intro K43 hK43
  refine wrt [.p 0, .p 1] ?_
  refine pm ?_;simp only [nf]
  refine pp rfl rfl (pr_bin rfl rfl (by first | exact bin_geq_n (n := 0)  | exact bin_geq_i)) ?_;simp only [nf]
  refine plan_nil hH ?_
  clear hH
  intro w44 hH
  refine hK43 _ _ ?_
  (try clear hK43 K43)
  refine wp_cond_split rfl (fun hc45 => ?_) (fun hc45 => ?_)
  ·
   (try simp only [cnd, gsl] at hc45)
   simp only [show ((sz : Int) - 1 - (k : Nat)) = ((sz - 1 - k : Nat) : Int) by omega]
   refine wp_skip ?_
   refine hK42 _ _ ?_
   (try clear hK42 K42)
   refine wp_seq_k ?_
   intro K46 hK46
   refine wp_block ?_
   refine wrt [.p 0, .p 1, .q 2, .p 3, .p 4, .p 5, .p 6, .x 7, .e 8, .p 9] ?_
   refine pm ?_;simp only [nf]
   refine pp rfl rfl (pr_fieldAddr 5 rfl Tryd.underlying32 rfl rfl sz3) ?_;simp only [nf]
   refine pq rfl rfl (qr_load1 rfl Tryd.underlying3 rfl ((hH.blk 0 rfl).cell rfl)) ?_;simp only [nf]
   refine pm ?_;simp only [nf]
   refine pp rfl rfl (pr_bin rfl rfl (by first | exact bin_mul_n (m := 8) (by first | omega | (first | (rw [hex]; omega) | (simp; done) | (simp; omega))) | exact bin_mul_i (by first | omega | (first | (rw [hex]; omega) | (simp; done) | (simp; omega))) (by first | omega | (first | (rw [hex]; omega) | (simp; done) | (simp; omega))))) ?_;simp only [nf]
   refine pp rfl rfl (pr_bin rfl rfl (by first | exact bin_shr_n (by first | omega | (first | (rw [hex]; omega) | (simp; done) | (simp; omega))) | exact bin_shr_i (by first | omega | (first | (rw [hex]; omega) | (simp; done) | (simp; omega))))) ?_;simp only [nf]
   refine pp rfl rfl (pr_conv rfl (by first | exact cnv_n_u8 Tryd.underlying3 Tryd.underlying5 | exact cnv_i_u8 Tryd.underlying3 Tryd.underlying5)) ?_;simp only [nf]
   refine plan_buildSlice rfl rfl hH Tryd.underlying22 (by rfl) (bs1 _) ?_
   clear hH
   intro b47 w48 hH
   (try simp only [nf, nh, Value.cells, arrB_set] at hH ⊢)
   refine plan_append 1 rfl rfl hH rfl hO (fun w' hH => ((OwnC.sl hH 2 rfl (OwnC.of_bytes rfl))).src) rfl rfl Tryd.underlying22 Tryd.underlying22 (.inl ⟨_, rfl⟩) sz5 bz5 ze5 rfl (by first | omega | (simp; omega) | (rw [hex2]; omega)) (by first | omega | (simp; omega) | (rw [hex2]; omega)) ?_
   clear hH
   intro o49 cap50 cs51 w52 hO53 hH
   (try simp only [nf] at hH ⊢)
   (try simp only [nf, nh, Value.cells, arrB_set] at hH ⊢)
   try rw [← List.map_append] at hO53
   (try simp only [Nat.zero_add, List.nil_append, List.length_nil] at hO53 ⊢)
   refine pa ?_;simp only [nf]
   refine plan_nil hH ?_
   clear hH
   intro w54 hH
   refine hK46 _ _ ?_
   (try clear hK46 K46)
   refine wrt [.p 0, .p 1, .p 2] ?_
   refine pm ?_;simp only [nf]
   refine pp rfl rfl (pr_bin rfl rfl (by first | exact bin_sub_n (n := 1) (by first | omega | (first | (rw [hex]; omega) | (simp; done) | (simp; omega))) (by first | omega | (first | (rw [hex]; omega) | (simp; done) | (simp; omega))) | exact bin_sub_i (by first | omega | (first | (rw [hex]; omega) | (simp; done) | (simp; omega))) (by first | omega | (first | (rw [hex]; omega) | (simp; done) | (simp; omega))))) ?_;simp only [nf]
   refine pa ?_;simp only [nf]
   refine plan_nil hH ?_
   clear hH
   intro w55 hH
   (try simp only [Exit.then, Exit.inBlock, ↓reduceIte, Nat.reduceEqDiff])
   rw [show (((sz - 1 - k : Nat) : Int) - 1) = (sz : Int) - 1 - ((k + 1 : Nat) : Int) by omega]
   refine ⟨sz - (k + 1), ?_, _, rfl, by kernel_rfl, ?_⟩
   · first | omega | (omega)
   simp only [ga]
   refine ⟨k + 1, o49, cap50, cs51, rfl, ?_, rfl, ?_, ?_⟩
   ·
    exact hH.take 2
   · first | omega | (omega)
   · first | omega | (exact ⟨_, hO53⟩)
  ·
   (try simp only [cnd, gsl] at hc45)
   refine wp_exit ?_
   (try simp only [Exit.then, Exit.inBlock, ↓reduceIte, Nat.reduceEqDiff])
   refine hK31 _ _ ?_
   (try clear hK31 K31)
   refine wp_seq_k ?_
   intro K56 hK56
   refine wrt [.p 0, .q 1, .p 2] ?_
   refine pm ?_;simp only [nf]
   refine pq rfl rfl (qr_b2s (OwnC.sl hH 1 rfl hO) rfl Tryd.underlying22 Tryd.underlying5 Tryd.underlying9) ?_;simp only [nf]
   refine pa ?_;simp only [nf]
   refine plan_nil hH ?_
   clear hH
   intro w57 hH
   refine hK56 _ _ ?_
   (try clear hK56 K56)
   refine wp_ret ?_
   (try simp only [Exit.then, Exit.inBlock, ↓reduceIte, Nat.reduceEqDiff])
   refine BP.ret1 rfl rfl ?_
   refine ⟨_, rfl, hH.chg, ?_⟩
   have hln := hO.len
   rw [List.length_map] at hln
   rw [bsz]; omega
theorem fit_calls (a b c hd ca : ByteArray) (size number ex : Int) (ft : Bool) (w : World) (hs1 : -9223372036854775808 ≤ size) (hs2 : size ≤ 9223372036854775807) : Ret Tryd.prog 11 #[.agg #[.string a, .string b, .string c, .string hd, I64 size, I64 number, .string ca, I64 ex, BV ft]] w fun v w' => ∃ s : ByteArray, v = .string s ∧ Chg [] w w' ∧ s.size ≤ 66 := by
  by_cases h : min hd.size 60 = 0
  · exact fit_b a b c hd ca size number ex ft w hs1 hs2 h
  · exact fit_a a b c hd ca size number ex ft w hs1 hs2 (by omega)
end Go.Proofs.YtmoaddicejohgaaDoor
set_option linter.unusedSimpArgs false
set_option linter.unusedVariables false
namespace Go.Proofs.YtmoaddicejohgaaDoor
open Go
section
variable {P : Program} {a : Act} {w : World} {d : Option Tmp} {ty : TypeId} {pos : String} {af : Array Edge} {g : Option (Nat × Bool)} {x y : Operand} {t T : TypeId}
end
theorem spl : (∀ (l : List Value) (o : Nat) (vs : List Value), splice l.toArray o vs.toArray = (l.take o ++ vs ++ l.drop (o + vs.length)).toArray) ∧ (∀ (x : Value) (l : List Value) (n : Nat), (x :: l).take (n + 1) = x :: l.take n) ∧ (∀ l : List Value, l.take 0 = []) ∧ (∀ (x : Value) (l : List Value) (n : Nat), (x :: l).drop (n + 1) = l.drop n) ∧ (∀ l : List Value, l.drop 0 = l) ∧
    (∀ (x : Value) (l m : List Value), (x :: l) ++ m = x :: (l ++ m)) ∧ (∀ m : List Value, [] ++ m = m) ∧ (∀ (x : Value) (l : List Value), (x :: l).length = l.length + 1) ∧ (([] : List Value).length = 0) ∧ (∀ n : Nat, 0 + n = n) :=
  ⟨fun l o vs => by unfold splice; simp, fun _ _ _ => rfl, fun _ => rfl, fun _ _ _ => rfl, fun _ => rfl, fun _ _ _ => rfl, fun _ => rfl, fun _ _ => rfl, rfl, Nat.zero_add⟩
end Go.Proofs.YtmoaddicejohgaaDoor
set_option linter.unusedSimpArgs false
set_option linter.unusedVariables false
set_option maxRecDepth 100000
set_option maxHeartbeats 4000000
namespace Go.Proofs.YtmoaddicejohgaaDoor
open Go
open List (getD_cons_zero getD_cons_succ set_cons_zero set_cons_succ)
theorem gopen_back (a b c : ByteArray) (hl cl : List UInt8) (sz nu e : Nat) (bv : Value) (w : World) (hB : Back a b c hl cl sz nu) (he : e ≤ 4611686018427387903) (hlo : e ≤ nu + 2 ^ (8 * sz) / 4) (hhi : nu ≤ e + 2 ^ (8 * sz) / 4) (hv : Sl w bv (sealOut a b c hl sz nu cl)) (hll : hl.length ≤ 100) (hcl : cl.length ≤ 1000) :
    Ret Tryd.prog 16 #[.agg #[.string a, .string b, .string c], bv, I64 (hl.length - sz : Nat), I64 e] w fun v w' => ∃ o1 cs1 o2 cap2 cs2, v = .tuple #[ownO o1 0 hl.length hl.length, I64 nu, own o2 cl.length cap2, I64 (0 : Nat)] ∧ Hp [] w w' [(o1, 5, cs1), (o2, 5, cs2)] ∧ OwnD o1 0 hl.length hl.length cs1 hl ∧ OwnC o2 cl.length cap2 1 cs2 (cl.map V8) := by
  have hh := hB.hl1
  have hopen := hB.openE he hlo hhi
  refine (gopen_calls a b c bv _ ((hl.length - sz : Nat) : Int) (e : Int) w hv (by rw [sealOut_len]; omega) (by omega) (by omega)).mono fun v w' h => ?_
  obtain ⟨o1, cs1, o2, cap2, cs2, rfl, hp, hd, hO⟩ := h.1 hopen
  rw [show (((hl.length - sz : Nat) : Int)).toNat = hl.length - sz by omega] at hd hO ⊢
  rw [show ((e : Nat) : Int).toNat = e by omega] at hO ⊢
  rw [hB.num hlo hhi]
  rw [hB.size, hB.head, show hl.length - sz + sz = hl.length by omega] at hd
  rw [hB.out hlo hhi, hB.rest, sealedL_len, Nat.add_sub_cancel] at hO
  rw [hB.size, hB.rest, sealedL_len, Nat.add_sub_cancel, show hl.length - sz + sz = hl.length by omega]
  exact ⟨o1, cs1, o2, cap2, cs2, rfl, hp, hd, hO⟩
end Go.Proofs.YtmoaddicejohgaaDoor
