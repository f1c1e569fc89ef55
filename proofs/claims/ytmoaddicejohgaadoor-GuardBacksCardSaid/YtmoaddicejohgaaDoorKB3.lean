/- Packed: Guard2, Bits, Guard3, Guard, Guard4, Guard5, Guard6, Frame, Wide, GcmH, GcmT, Guard8, as far as guardBacksCard_holds needs them. No conditions but those that stand in the statements. -/
import Derived.Test.YtmoaddicejohgaaDoorKB2
import Derived.Carry
import Derived.OpenShut
import Derived.Handed
import Derived.ProofKit
import Derived.HandedShaped
set_option linter.unusedSimpArgs false
set_option linter.unusedVariables false
set_option maxRecDepth 100000
set_option maxHeartbeats 4000000
namespace Go.Proofs.YtmoaddicejohgaaDoor
open Go
open List (getD_cons_zero getD_cons_succ set_cons_zero set_cons_succ)
def rightB (a b c : ByteArray) : Bool := a.size == 16 && (b.size == 12 && c.size == 16)
def nonL (l : List UInt8) (n : Nat) : Nat → List UInt8
  | 0 => l
  | i + 1 => (nonL l n i).set (11 - i) ((nonL l n i).getD (11 - i) 0 ^^^ UInt8.ofNat (n / 2 ^ (8 * i)))
@[simp] theorem nonL_len (l : List UInt8) (n i : Nat) : (nonL l n i).length = l.length := by
  induction i with
  | zero => rfl
  | succ i ih => simp [nonL, ih]
theorem right_a (a b c : ByteArray) (w : World) (h : a.size ≠ 16) : Ret Tryd.prog 27 #[.agg #[.string a, .string b, .string c]] w fun v w' => v = BV false ∧ Chg [] w w' := by
 refine Ret.enter Tryd.func27 rfl ?_
 simp only [Tryd.ntmps27, fe, Nat.reduceAdd, Nat.reduceSub]
 have hH := Hp.start [] w
 refine wp_seq_k ?_
 intro K1 hK1
 refine wrt [.x 0, .p 1] ?_
 refine plan_box rfl rfl hH rfl ?_
 clear hH
 intro b2 w3 hH
 (try simp only [nf, nh, Value.cells, arrB_set] at hH ⊢)
 refine pa ?_;simp only [nf]
 refine plan_nil hH ?_
 clear hH
 intro w4 hH
 refine hK1 _ _ ?_
 (try clear hK1 K1)
 refine wp_seq_k ?_
 intro K5 hK5
 refine wrt [.p 0, .q 1, .p 2, .p 3, .p 4, .p 5, .q 6, .p 7, .p 8, .p 9, .p 10, .p 11, .q 12, .p 13, .p 14, .p 15, .p 16] ?_
 refine pp rfl rfl (pr_fieldAddr 0 rfl Tryd.underlying37 rfl rfl sz9) ?_;simp only [nf]
 refine pq rfl rfl (qr_load1 rfl Tryd.underlying9 rfl ((hH.blk 0 rfl).cell rfl)) ?_;simp only [nf]
 refine pp rfl rfl (pr_len_str rfl Tryd.underlying9) ?_;simp only [nf]
 refine pp rfl rfl (pr_bin rfl rfl (by first | exact bin_eql_n (n := 16)  | exact bin_eql_i)) ?_;simp only [nf]
 refine plan_p (v := BV false) rfl rfl (pr_move_v (by show BV _ = _; exact congrArg BV (beq_eq_false_iff_ne.2 h))) ?_
 (try simp only [nf])
 refine plan_ps rfl rfl ?_
 (try simp only [nf])
 refine plan_qs rfl rfl ?_
 (try simp only [nf])
 refine plan_ps rfl rfl ?_
 (try simp only [nf])
 refine plan_ps rfl rfl ?_
 (try simp only [nf])
 refine pp rfl rfl (pr_pick_f rfl) ?_;simp only [nf]
 refine plan_p (v := BV false) rfl rfl (pr_move_v rfl) ?_
 (try simp only [nf])
 refine plan_ps rfl rfl ?_
 (try simp only [nf])
 refine plan_qs rfl rfl ?_
 (try simp only [nf])
 refine plan_ps rfl rfl ?_
 (try simp only [nf])
 refine plan_ps rfl rfl ?_
 (try simp only [nf])
 refine pp rfl rfl (pr_pick_f rfl) ?_;simp only [nf]
 refine pa ?_;simp only [nf]
 refine plan_nil hH ?_
 clear hH
 intro w6 hH
 refine hK5 _ _ ?_
 (try clear hK5 K5)
 refine wp_ret ?_
 (try simp only [Exit.then, Exit.inBlock, ↓reduceIte, Nat.reduceEqDiff])
 refine BP.ret1 rfl rfl ?_
 exact ⟨rfl, hH.chg⟩
theorem right_b (a b c : ByteArray) (w : World) (h : a.size = 16) (h2 : b.size ≠ 12) : Ret Tryd.prog 27 #[.agg #[.string a, .string b, .string c]] w fun v w' => v = BV false ∧ Chg [] w w' := by
 refine Ret.enter Tryd.func27 rfl ?_
 simp only [Tryd.ntmps27, fe, Nat.reduceAdd, Nat.reduceSub]
 have hH := Hp.start [] w
 refine wp_seq_k ?_
 intro K1 hK1
 refine wrt [.x 0, .p 1] ?_
 refine plan_box rfl rfl hH rfl ?_
 clear hH
 intro b2 w3 hH
 (try simp only [nf, nh, Value.cells, arrB_set] at hH ⊢)
 refine pa ?_;simp only [nf]
 refine plan_nil hH ?_
 clear hH
 intro w4 hH
 refine hK1 _ _ ?_
 (try clear hK1 K1)
 refine wp_seq_k ?_
 intro K5 hK5
 refine wrt [.p 0, .q 1, .p 2, .p 3, .p 4, .p 5, .q 6, .p 7, .p 8, .p 9, .p 10, .p 11, .q 12, .p 13, .p 14, .p 15, .p 16] ?_
 refine pp rfl rfl (pr_fieldAddr 0 rfl Tryd.underlying37 rfl rfl sz9) ?_;simp only [nf]
 refine pq rfl rfl (qr_load1 rfl Tryd.underlying9 rfl ((hH.blk 0 rfl).cell rfl)) ?_;simp only [nf]
 refine pp rfl rfl (pr_len_str rfl Tryd.underlying9) ?_;simp only [nf]
 refine pp rfl rfl (pr_bin rfl rfl (by first | exact bin_eql_n (n := 16)  | exact bin_eql_i)) ?_;simp only [nf]
 refine plan_p (v := BV true) rfl rfl (pr_move_v (by show BV _ = _; exact congrArg BV (beq_iff_eq.2 h))) ?_
 (try simp only [nf])
 refine pp rfl rfl (pr_fieldAddr 1 rfl Tryd.underlying37 rfl rfl sz9) ?_;simp only [nf]
 refine pq rfl rfl (qr_load1 rfl Tryd.underlying9 rfl ((hH.blk 0 rfl).cell rfl)) ?_;simp only [nf]
 refine pp rfl rfl (pr_len_str rfl Tryd.underlying9) ?_;simp only [nf]
 refine pp rfl rfl (pr_bin rfl rfl (by first | exact bin_eql_n (n := 12)  | exact bin_eql_i)) ?_;simp only [nf]
 refine pp rfl rfl (pr_pick_t rfl) ?_;simp only [nf]
 refine plan_p (v := BV false) rfl rfl (pr_move_v (by show BV _ = _; exact congrArg BV (beq_eq_false_iff_ne.2 h2))) ?_
 (try simp only [nf])
 refine plan_ps rfl rfl ?_
 (try simp only [nf])
 refine plan_qs rfl rfl ?_
 (try simp only [nf])
 refine plan_ps rfl rfl ?_
 (try simp only [nf])
 refine plan_ps rfl rfl ?_
 (try simp only [nf])
 refine pp rfl rfl (pr_pick_f rfl) ?_;simp only [nf]
 refine pa ?_;simp only [nf]
 refine plan_nil hH ?_
 clear hH
 intro w6 hH
 refine hK5 _ _ ?_
 (try clear hK5 K5)
 refine wp_ret ?_
 (try simp only [Exit.then, Exit.inBlock, ↓reduceIte, Nat.reduceEqDiff])
 refine BP.ret1 rfl rfl ?_
 exact ⟨rfl, hH.chg⟩
theorem right_c (a b c : ByteArray) (w : World) (h : a.size = 16) (h2 : b.size = 12) : Ret Tryd.prog 27 #[.agg #[.string a, .string b, .string c]] w fun v w' => v = BV (c.size == 16) ∧ Chg [] w w' := by
 refine Ret.enter Tryd.func27 rfl ?_
 simp only [Tryd.ntmps27, fe, Nat.reduceAdd, Nat.reduceSub]
 have hH := Hp.start [] w
 refine wp_seq_k ?_
 intro K1 hK1
 refine wrt [.x 0, .p 1] ?_
 refine plan_box rfl rfl hH rfl ?_
 clear hH
 intro b2 w3 hH
 (try simp only [nf, nh, Value.cells, arrB_set] at hH ⊢)
 refine pa ?_;simp only [nf]
 refine plan_nil hH ?_
 clear hH
 intro w4 hH
 refine hK1 _ _ ?_
 (try clear hK1 K1)
 refine wp_seq_k ?_
 intro K5 hK5
 refine wrt [.p 0, .q 1, .p 2, .p 3, .p 4, .p 5, .q 6, .p 7, .p 8, .p 9, .p 10, .p 11, .q 12, .p 13, .p 14, .p 15, .p 16] ?_
 refine pp rfl rfl (pr_fieldAddr 0 rfl Tryd.underlying37 rfl rfl sz9) ?_;simp only [nf]
 refine pq rfl rfl (qr_load1 rfl Tryd.underlying9 rfl ((hH.blk 0 rfl).cell rfl)) ?_;simp only [nf]
 refine pp rfl rfl (pr_len_str rfl Tryd.underlying9) ?_;simp only [nf]
 refine pp rfl rfl (pr_bin rfl rfl (by first | exact bin_eql_n (n := 16)  | exact bin_eql_i)) ?_;simp only [nf]
 refine plan_p (v := BV true) rfl rfl (pr_move_v (by show BV _ = _; exact congrArg BV (beq_iff_eq.2 h))) ?_
 (try simp only [nf])
 refine pp rfl rfl (pr_fieldAddr 1 rfl Tryd.underlying37 rfl rfl sz9) ?_;simp only [nf]
 refine pq rfl rfl (qr_load1 rfl Tryd.underlying9 rfl ((hH.blk 0 rfl).cell rfl)) ?_;simp only [nf]
 refine pp rfl rfl (pr_len_str rfl Tryd.underlying9) ?_;simp only [nf]
 refine pp rfl rfl (pr_bin rfl rfl (by first | exact bin_eql_n (n := 12)  | exact bin_eql_i)) ?_;simp only [nf]
 refine pp rfl rfl (pr_pick_t rfl) ?_;simp only [nf]
 refine plan_p (v := BV true) rfl rfl (pr_move_v (by show BV _ = _; exact congrArg BV (beq_iff_eq.2 h2))) ?_
 (try simp only [nf])
 refine pp rfl rfl (pr_fieldAddr 2 rfl Tryd.underlying37 rfl rfl sz9) ?_;simp only [nf]
 refine pq rfl rfl (qr_load1 rfl Tryd.underlying9 rfl ((hH.blk 0 rfl).cell rfl)) ?_;simp only [nf]
 refine pp rfl rfl (pr_len_str rfl Tryd.underlying9) ?_;simp only [nf]
 refine pp rfl rfl (pr_bin rfl rfl (by first | exact bin_eql_n (n := 16)  | exact bin_eql_i)) ?_;simp only [nf]
 refine pp rfl rfl (pr_pick_t rfl) ?_;simp only [nf]
 refine pa ?_;simp only [nf]
 refine plan_nil hH ?_
 clear hH
 intro w6 hH
 refine hK5 _ _ ?_
 (try clear hK5 K5)
 refine wp_ret ?_
 (try simp only [Exit.then, Exit.inBlock, ↓reduceIte, Nat.reduceEqDiff])
 refine BP.ret1 rfl rfl ?_
 exact ⟨rfl, hH.chg⟩
theorem right_calls (a b c : ByteArray) (w : World) : Ret Tryd.prog 27 #[.agg #[.string a, .string b, .string c]] w fun v w' => v = BV (rightB a b c) ∧ Chg [] w w' := by
  unfold rightB
  by_cases h : a.size = 16
  · by_cases h2 : b.size = 12
    · rw [beq_iff_eq.2 h, beq_iff_eq.2 h2]; exact right_c a b c w h h2
    · rw [beq_iff_eq.2 h, beq_eq_false_iff_ne.2 h2]; exact right_b a b c w h h2
  · rw [beq_eq_false_iff_ne.2 h]; exact right_a a b c w h
theorem docright_a (a b c : ByteArray) (w : World) (h : a.size ≠ 16) : Ret Tryd.prog 24 #[.agg #[.string a, .string b, .string c]] w fun v w' => v = BV false ∧ Chg [] w w' := by
 refine Ret.enter Tryd.func24 rfl ?_
 simp only [Tryd.ntmps24, fe, Nat.reduceAdd, Nat.reduceSub]
 have hH := Hp.start [] w
 refine wp_seq_k ?_
 intro K1 hK1
 refine wrt [.x 0, .p 1] ?_
 refine plan_box rfl rfl hH rfl ?_
 clear hH
 intro b2 w3 hH
 (try simp only [nf, nh, Value.cells, arrB_set] at hH ⊢)
 refine pa ?_;simp only [nf]
 refine plan_nil hH ?_
 clear hH
 intro w4 hH
 refine hK1 _ _ ?_
 (try clear hK1 K1)
 refine wp_seq_k ?_
 intro K5 hK5
 refine wrt [.p 0, .q 1, .p 2, .p 3, .p 4, .p 5, .q 6, .p 7, .p 8, .p 9, .p 10, .p 11, .q 12, .p 13, .p 14, .p 15, .p 16] ?_
 refine pp rfl rfl (pr_fieldAddr 0 rfl Tryd.underlying30 rfl rfl sz9) ?_;simp only [nf]
 refine pq rfl rfl (qr_load1 rfl Tryd.underlying9 rfl ((hH.blk 0 rfl).cell rfl)) ?_;simp only [nf]
 refine pp rfl rfl (pr_len_str rfl Tryd.underlying9) ?_;simp only [nf]
 refine pp rfl rfl (pr_bin rfl rfl (by first | exact bin_eql_n (n := 16)  | exact bin_eql_i)) ?_;simp only [nf]
 refine plan_p (v := BV false) rfl rfl (pr_move_v (by show BV _ = _; exact congrArg BV (beq_eq_false_iff_ne.2 h))) ?_
 (try simp only [nf])
 refine plan_ps rfl rfl ?_
 (try simp only [nf])
 refine plan_qs rfl rfl ?_
 (try simp only [nf])
 refine plan_ps rfl rfl ?_
 (try simp only [nf])
 refine plan_ps rfl rfl ?_
 (try simp only [nf])
 refine pp rfl rfl (pr_pick_f rfl) ?_;simp only [nf]
 refine plan_p (v := BV false) rfl rfl (pr_move_v rfl) ?_
 (try simp only [nf])
 refine plan_ps rfl rfl ?_
 (try simp only [nf])
 refine plan_qs rfl rfl ?_
 (try simp only [nf])
 refine plan_ps rfl rfl ?_
 (try simp only [nf])
 refine plan_ps rfl rfl ?_
 (try simp only [nf])
 refine pp rfl rfl (pr_pick_f rfl) ?_;simp only [nf]
 refine pa ?_;simp only [nf]
 refine plan_nil hH ?_
 clear hH
 intro w6 hH
 refine hK5 _ _ ?_
 (try clear hK5 K5)
 refine wp_ret ?_
 (try simp only [Exit.then, Exit.inBlock, ↓reduceIte, Nat.reduceEqDiff])
 refine BP.ret1 rfl rfl ?_
 exact ⟨rfl, hH.chg⟩
theorem docright_b (a b c : ByteArray) (w : World) (h : a.size = 16) (h2 : b.size ≠ 12) : Ret Tryd.prog 24 #[.agg #[.string a, .string b, .string c]] w fun v w' => v = BV false ∧ Chg [] w w' := by
 refine Ret.enter Tryd.func24 rfl ?_
 simp only [Tryd.ntmps24, fe, Nat.reduceAdd, Nat.reduceSub]
 have hH := Hp.start [] w
 refine wp_seq_k ?_
 intro K1 hK1
 refine wrt [.x 0, .p 1] ?_
 refine plan_box rfl rfl hH rfl ?_
 clear hH
 intro b2 w3 hH
 (try simp only [nf, nh, Value.cells, arrB_set] at hH ⊢)
 refine pa ?_;simp only [nf]
 refine plan_nil hH ?_
 clear hH
 intro w4 hH
 refine hK1 _ _ ?_
 (try clear hK1 K1)
 refine wp_seq_k ?_
 intro K5 hK5
 refine wrt [.p 0, .q 1, .p 2, .p 3, .p 4, .p 5, .q 6, .p 7, .p 8, .p 9, .p 10, .p 11, .q 12, .p 13, .p 14, .p 15, .p 16] ?_
 refine pp rfl rfl (pr_fieldAddr 0 rfl Tryd.underlying30 rfl rfl sz9) ?_;simp only [nf]
 refine pq rfl rfl (qr_load1 rfl Tryd.underlying9 rfl ((hH.blk 0 rfl).cell rfl)) ?_;simp only [nf]
 refine pp rfl rfl (pr_len_str rfl Tryd.underlying9) ?_;simp only [nf]
 refine pp rfl rfl (pr_bin rfl rfl (by first | exact bin_eql_n (n := 16)  | exact bin_eql_i)) ?_;simp only [nf]
 refine plan_p (v := BV true) rfl rfl (pr_move_v (by show BV _ = _; exact congrArg BV (beq_iff_eq.2 h))) ?_
 (try simp only [nf])
 refine pp rfl rfl (pr_fieldAddr 1 rfl Tryd.underlying30 rfl rfl sz9) ?_;simp only [nf]
 refine pq rfl rfl (qr_load1 rfl Tryd.underlying9 rfl ((hH.blk 0 rfl).cell rfl)) ?_;simp only [nf]
 refine pp rfl rfl (pr_len_str rfl Tryd.underlying9) ?_;simp only [nf]
 refine pp rfl rfl (pr_bin rfl rfl (by first | exact bin_eql_n (n := 12)  | exact bin_eql_i)) ?_;simp only [nf]
 refine pp rfl rfl (pr_pick_t rfl) ?_;simp only [nf]
 refine plan_p (v := BV false) rfl rfl (pr_move_v (by show BV _ = _; exact congrArg BV (beq_eq_false_iff_ne.2 h2))) ?_
 (try simp only [nf])
 refine plan_ps rfl rfl ?_
 (try simp only [nf])
 refine plan_qs rfl rfl ?_
 (try simp only [nf])
 refine plan_ps rfl rfl ?_
 (try simp only [nf])
 refine plan_ps rfl rfl ?_
 (try simp only [nf])
 refine pp rfl rfl (pr_pick_f rfl) ?_;simp only [nf]
 refine pa ?_;simp only [nf]
 refine plan_nil hH ?_
 clear hH
 intro w6 hH
 refine hK5 _ _ ?_
 (try clear hK5 K5)
 refine wp_ret ?_
 (try simp only [Exit.then, Exit.inBlock, ↓reduceIte, Nat.reduceEqDiff])
 refine BP.ret1 rfl rfl ?_
 exact ⟨rfl, hH.chg⟩
theorem docright_c (a b c : ByteArray) (w : World) (h : a.size = 16) (h2 : b.size = 12) : Ret Tryd.prog 24 #[.agg #[.string a, .string b, .string c]] w fun v w' => v = BV (c.size == 16) ∧ Chg [] w w' := by
 refine Ret.enter Tryd.func24 rfl ?_
 simp only [Tryd.ntmps24, fe, Nat.reduceAdd, Nat.reduceSub]
 have hH := Hp.start [] w
 refine wp_seq_k ?_
 intro K1 hK1
 refine wrt [.x 0, .p 1] ?_
 refine plan_box rfl rfl hH rfl ?_
 clear hH
 intro b2 w3 hH
 (try simp only [nf, nh, Value.cells, arrB_set] at hH ⊢)
 refine pa ?_;simp only [nf]
 refine plan_nil hH ?_
 clear hH
 intro w4 hH
 refine hK1 _ _ ?_
 (try clear hK1 K1)
 refine wp_seq_k ?_
 intro K5 hK5
 refine wrt [.p 0, .q 1, .p 2, .p 3, .p 4, .p 5, .q 6, .p 7, .p 8, .p 9, .p 10, .p 11, .q 12, .p 13, .p 14, .p 15, .p 16] ?_
 refine pp rfl rfl (pr_fieldAddr 0 rfl Tryd.underlying30 rfl rfl sz9) ?_;simp only [nf]
 refine pq rfl rfl (qr_load1 rfl Tryd.underlying9 rfl ((hH.blk 0 rfl).cell rfl)) ?_;simp only [nf]
 refine pp rfl rfl (pr_len_str rfl Tryd.underlying9) ?_;simp only [nf]
 refine pp rfl rfl (pr_bin rfl rfl (by first | exact bin_eql_n (n := 16)  | exact bin_eql_i)) ?_;simp only [nf]
 refine plan_p (v := BV true) rfl rfl (pr_move_v (by show BV _ = _; exact congrArg BV (beq_iff_eq.2 h))) ?_
 (try simp only [nf])
 refine pp rfl rfl (pr_fieldAddr 1 rfl Tryd.underlying30 rfl rfl sz9) ?_;simp only [nf]
 refine pq rfl rfl (qr_load1 rfl Tryd.underlying9 rfl ((hH.blk 0 rfl).cell rfl)) ?_;simp only [nf]
 refine pp rfl rfl (pr_len_str rfl Tryd.underlying9) ?_;simp only [nf]
 refine pp rfl rfl (pr_bin rfl rfl (by first | exact bin_eql_n (n := 12)  | exact bin_eql_i)) ?_;simp only [nf]
 refine pp rfl rfl (pr_pick_t rfl) ?_;simp only [nf]
 refine plan_p (v := BV true) rfl rfl (pr_move_v (by show BV _ = _; exact congrArg BV (beq_iff_eq.2 h2))) ?_
 (try simp only [nf])
 refine pp rfl rfl (pr_fieldAddr 2 rfl Tryd.underlying30 rfl rfl sz9) ?_;simp only [nf]
 refine pq rfl rfl (qr_load1 rfl Tryd.underlying9 rfl ((hH.blk 0 rfl).cell rfl)) ?_;simp only [nf]
 refine pp rfl rfl (pr_len_str rfl Tryd.underlying9) ?_;simp only [nf]
 refine pp rfl rfl (pr_bin rfl rfl (by first | exact bin_eql_n (n := 16)  | exact bin_eql_i)) ?_;simp only [nf]
 refine pp rfl rfl (pr_pick_t rfl) ?_;simp only [nf]
 refine pa ?_;simp only [nf]
 refine plan_nil hH ?_
 clear hH
 intro w6 hH
 refine hK5 _ _ ?_
 (try clear hK5 K5)
 refine wp_ret ?_
 (try simp only [Exit.then, Exit.inBlock, ↓reduceIte, Nat.reduceEqDiff])
 refine BP.ret1 rfl rfl ?_
 exact ⟨rfl, hH.chg⟩
theorem docright_calls (a b c : ByteArray) (w : World) : Ret Tryd.prog 24 #[.agg #[.string a, .string b, .string c]] w fun v w' => v = BV (rightB a b c) ∧ Chg [] w w' := by
  unfold rightB
  by_cases h : a.size = 16
  · by_cases h2 : b.size = 12
    · rw [beq_iff_eq.2 h, beq_iff_eq.2 h2]; exact docright_c a b c w h h2
    · rw [beq_iff_eq.2 h, beq_eq_false_iff_ne.2 h2]; exact docright_b a b c w h h2
  · rw [beq_eq_false_iff_ne.2 h]; exact docright_a a b c w h
theorem nonce_calls (a b c : ByteArray) (n : Nat) (w : World) (hb : b.size = 12) (hn : n < 9223372036854775808) : Ret Tryd.prog 29 #[.agg #[.string a, .string b, .string c], I64 n] w fun v w' => ∃ o cap cs, v = own o 12 cap ∧ Chg [] w w' ∧ OwnC o 12 cap 1 cs ((nonL b.data.toList n 8).map V8) ∧ ∀ b, o = some b → w.heap.size ≤ b ∧ Blk w' b 5 cs := by
 have hsl : b.data.toList.length = b.size := by simp
 refine Ret.enter Tryd.func29 rfl ?_
 simp only [Tryd.ntmps29, fe, Nat.reduceAdd, Nat.reduceSub]
 have hH := Hp.start [] w
 refine wp_seq_k ?_
 intro K1 hK1
 refine wrt [.x 0, .p 1] ?_
 refine plan_box rfl rfl hH rfl ?_
 clear hH
 intro b2 w3 hH
 (try simp only [nf, nh, Value.cells, arrB_set] at hH ⊢)
 refine pa ?_;simp only [nf]
 refine plan_nil hH ?_
 clear hH
 intro w4 hH
 refine hK1 _ _ ?_
 (try clear hK1 K1)
 refine wp_seq_k ?_
 intro K5 hK5
 refine wrt [.p 0, .q 1, .x 2, .p 3] ?_
 refine pp rfl rfl (pr_fieldAddr 1 rfl Tryd.underlying37 rfl rfl sz9) ?_;simp only [nf]
 refine pq rfl rfl (qr_load1 rfl Tryd.underlying9 rfl ((hH.blk 0 rfl).cell rfl)) ?_;simp only [nf]
 refine plan_s2b rfl rfl hH rfl Tryd.underlying9 Tryd.underlying22 Tryd.underlying5 ?_
 clear hH
 intro b6 cap7 cs8 w9 hO10 hH
 (try simp only [nf] at hH ⊢)
 (try simp only [nf, nh, Value.cells, arrB_set] at hH ⊢)
 refine pa ?_;simp only [nf]
 refine plan_nil hH ?_
 clear hH
 intro w11 hH
 refine hK5 _ _ ?_
 (try clear hK5 K5)
 refine wp_seq_k ?_
 intro K12 hK12
 refine wp_seq_k ?_
 intro K13 hK13
 refine wrt [.p 0] ?_
 refine pk 0 ?_;simp only [nf]
 refine plan_nil hH ?_
 clear hH
 intro w14 hH
 refine hK13 _ _ ?_
 (try clear hK13 K13)
 refine wp_block ?_
 obtain ⟨kc15, hkc16, hN⟩ := hH.name 0 rfl
 replace hH := hN; clear hN; simp only [List.set_cons_zero, List.set_cons_succ] at hH
 refine wp_loopT [10] [6, 11, 12, 13, 14, 15, 16, 17, 18, 19, 20, 21, 22, 23, 24, 25] (fun (n17 : Nat) (vs : List Value) (w' : World) => ∃ (i : Nat) (cs : Array Value), vs = [I64 (i : Nat)] ∧ Hp [] w w' [(some b2, 37, kc15), (some b6, 5, cs)] ∧ n17 = 8 - i ∧ i ≤ 8 ∧ OwnC (some b6) b.size cap7 1 cs ((nonL b.data.toList n i).map V8)) (8 - 0) (by kernel_rfl) ?_ ?_
 ·
  simp only [ga]
  refine ⟨0, cs8, rfl, ?_, rfl, ?_, ?_⟩
  ·
   exact hH
  · first | omega | (omega)
  · first | omega | (exact hO10)
 clear hH
 intro n17 vs18 w19 hR20 d0
 obtain ⟨i, cs, rfl, hH, hn21, hf22, hO⟩ := hR20
 simp only [putAll, putD, List.set_cons_zero, List.set_cons_succ, Nat.zero_add, Nat.reduceAdd]
 subst hkc16
 refine wp_seq_k ?_
 intro K23 hK23
 refine wrt [.p 0] ?_
 refine pp rfl rfl (pr_bin rfl rfl (by first | exact bin_lss_n (n := 8)  | exact bin_lss_i)) ?_;simp only [nf]
 refine plan_nil hH ?_
 clear hH
 intro w24 hH
 refine hK23 _ _ ?_
 (try clear hK23 K23)
 refine wp_seq_k ?_
 intro K25 hK25
 refine wp_cond_split rfl (fun hc26 => ?_) (fun hc26 => ?_)
 ·
  (try simp only [cnd] at hc26)
  refine wp_skip ?_
  refine hK25 _ _ ?_
  (try clear hK25 K25)
  refine wp_seq_k ?_
  intro K27 hK27
  refine wp_block ?_
  refine wp_seq_k ?_
  intro K28 hK28
  refine wrt [.p 0, .p 1] ?_
  refine pm (pa ?_);simp only [nf]
  refine plan_nil hH ?_
  clear hH
  intro w29 hH
  refine hK28 _ _ ?_
  (try clear hK28 K28)
  refine wrp [.p 0, .p 1, .p 2, .p 3, .p 5, .p 6, .p 7, .p 8, .p 9, .q 4, .p 10, .p 11, .e 12] ?_
  refine pm (pm ?_);simp only [nf]
  refine pp rfl rfl (pr_bin rfl rfl (by first | exact bin_sub_n (m := 11) (by first | omega | (simp <;> omega)) (by first | omega | (simp <;> omega)) | exact bin_sub_i (by first | omega | (simp <;> omega)) (by first | omega | (simp <;> omega)))) ?_;simp only [nf]
  refine pp rfl rfl (pr_idx_Sl (OwnC.sl hH 1 rfl hO) rfl rfl Tryd.underlying22 sz5 (by first | omega | (simp <;> omega))) ?_;simp only [nf]
  refine pm (pm ?_);simp only [nf]
  refine pp rfl rfl (pr_bin rfl rfl (by first | exact bin_mul_n (m := 8) (by first | omega | (simp <;> omega)) | exact bin_mul_i (by first | omega | (simp <;> omega)) (by first | omega | (simp <;> omega)))) ?_;simp only [nf]
  refine pp rfl rfl (pr_bin rfl rfl (by first | exact bin_shr_n (by first | omega | (simp <;> omega)) | exact bin_shr_i (by first | omega | (simp <;> omega)))) ?_;simp only [nf]
  refine pp rfl rfl (pr_conv rfl (by first | exact cnv_n_u8 Tryd.underlying3 Tryd.underlying5 | exact cnv_i_u8 Tryd.underlying3 Tryd.underlying5)) ?_;simp only [nf]
  refine pq rfl rfl (qr_load1 rfl Tryd.underlying5 rfl (Sl.cell (OwnC.sl hH 1 rfl hO) (by first | omega | (simp <;> omega)))) ?_;simp only [nf]
  refine pp rfl rfl (pr_bin rfl rfl (bin_xor_u8 _ _)) ?_;simp only [nf]
  refine pp rfl rfl (pr_idx_Sl (OwnC.sl hH 1 rfl hO) rfl rfl Tryd.underlying22 sz5 (by first | omega | (simp <;> omega))) ?_;simp only [nf]
  refine plan_storeO 1 rfl rfl hH rfl rfl hO rfl sz5 (by first | omega | (simp <;> omega)) ?_
  clear hH
  intro cs31 w30 hO32 hH
  (try simp only [nf, nh, Value.cells, arrB_set] at hH ⊢)
  refine plan_nil hH ?_
  clear hH
  intro w33 hH
  refine hK27 _ _ ?_
  (try clear hK27 K27)
  refine wrt [.p 0, .p 1] ?_
  refine pp rfl rfl (pr_bin rfl rfl (by first | exact bin_add_n (n := 1) (by first | omega | (simp <;> omega)) | exact bin_add_i (by first | omega | (simp <;> omega)) (by first | omega | (simp <;> omega)))) ?_;simp only [nf]
  refine pm ?_;simp only [nf]
  refine plan_nil hH ?_
  clear hH
  intro w34 hH
  (try simp only [Exit.then, Exit.inBlock, ↓reduceIte, Nat.reduceEqDiff])
  refine ⟨8 - (i + 1), ?_, _, rfl, by kernel_rfl, ?_⟩
  · first | omega | (omega)
  simp only [ga]
  refine ⟨i + 1, cs31, rfl, ?_, rfl, ?_, ?_⟩
  ·
   exact hH
  · first | omega | (omega)
  · first | omega | (unfold nonL; exact hO32)
 ·
  (try simp only [cnd] at hc26)
  refine wp_exit ?_
  (try simp only [Exit.then, Exit.inBlock, ↓reduceIte, Nat.reduceEqDiff])
  refine hK12 _ _ ?_
  (try clear hK12 K12)
  refine wp_seq_k ?_
  intro K35 hK35
  refine wrt [.p 0, .p 1] ?_
  refine pm (pa ?_);simp only [nf]
  refine plan_nil hH ?_
  clear hH
  intro w36 hH
  refine hK35 _ _ ?_
  (try clear hK35 K35)
  refine wp_ret ?_
  (try simp only [Exit.then, Exit.inBlock, ↓reduceIte, Nat.reduceEqDiff])
  refine BP.ret1 rfl rfl ?_
  obtain rfl : i = 8 := by omega
  rw [hb] at hO ⊢
  exact ⟨_, _, _, rfl, hH.chg, hO, hH.owned 1 rfl⟩
theorem docnonce_calls (b : ByteArray) (n : Nat) (w : World) (hb : b.size = 12) (hn : n < 9223372036854775808) : Ret Tryd.prog 25 #[.string b, I64 n] w fun v w' => v = .string ⟨(nonL b.data.toList n 8).toArray⟩ ∧ Chg [] w w' := by
 have hsl : b.data.toList.length = b.size := by simp
 refine Ret.enter Tryd.func25 rfl ?_
 simp only [Tryd.ntmps25, fe, Nat.reduceAdd, Nat.reduceSub]
 have hH := Hp.start [] w
 refine wp_seq_k ?_
 intro K1 hK1
 refine wrt [.p 0] ?_
 refine pa ?_;simp only [nf]
 refine plan_nil hH ?_
 clear hH
 intro w2 hH
 refine hK1 _ _ ?_
 (try clear hK1 K1)
 refine wp_seq_k ?_
 intro K3 hK3
 refine wrt [.p 0, .x 1, .p 2] ?_
 refine pm ?_;simp only [nf]
 refine plan_s2b rfl rfl hH rfl Tryd.underlying9 Tryd.underlying22 Tryd.underlying5 ?_
 clear hH
 intro b4 cap5 cs6 w7 hO8 hH
 (try simp only [nf] at hH ⊢)
 (try simp only [nf, nh, Value.cells, arrB_set] at hH ⊢)
 refine pa ?_;simp only [nf]
 refine plan_nil hH ?_
 clear hH
 intro w9 hH
 refine hK3 _ _ ?_
 (try clear hK3 K3)
 refine wp_seq_k ?_
 intro K10 hK10
 refine wp_seq_k ?_
 intro K11 hK11
 refine wrt [.p 0] ?_
 refine pka 0 ?_;simp only [nf]
 refine plan_nil hH ?_
 clear hH
 intro w12 hH
 refine hK11 _ _ ?_
 (try clear hK11 K11)
 refine wp_block ?_
 refine wp_loopT [6] [9, 10, 11, 12, 13, 14, 15, 16, 17, 18, 19, 20, 21, 22, 23, 24, 25, 26, 27] (fun (n13 : Nat) (vs : List Value) (w' : World) => ∃ (i : Nat) (cs : Array Value), vs = [I64 (i : Nat)] ∧ Hp [] w w' [(some b4, 5, cs)] ∧ n13 = 8 - i ∧ i ≤ 8 ∧ OwnC (some b4) b.size cap5 1 cs ((nonL b.data.toList n i).map V8)) (8 - 0) (by kernel_rfl) ?_ ?_
 ·
  simp only [ga]
  refine ⟨0, cs6, rfl, ?_, rfl, ?_, ?_⟩
  ·
   exact hH
  · first | omega | (omega)
  · first | omega | (exact hO8)
 clear hH
 intro n13 vs14 w15 hR16 d0
 obtain ⟨i, cs, rfl, hH, hn17, hf18, hO⟩ := hR16
 simp only [putAll, putD, List.set_cons_zero, List.set_cons_succ, Nat.zero_add, Nat.reduceAdd]
 refine wp_seq_k ?_
 intro K19 hK19
 refine wp_seq_k ?_
 intro K20 hK20
 refine wrt [.p 0, .p 1] ?_
 refine pm ?_;simp only [nf]
 refine pp rfl rfl (pr_bin rfl rfl (by first | exact bin_lss_n (n := 8)  | exact bin_lss_i)) ?_;simp only [nf]
 refine plan_nil hH ?_
 clear hH
 intro w21 hH
 refine hK20 _ _ ?_
 (try clear hK20 K20)
 refine wp_cond_split rfl (fun hc22 => ?_) (fun hc22 => ?_)
 ·
  (try simp only [cnd] at hc22)
  refine wp_skip ?_
  refine hK19 _ _ ?_
  (try clear hK19 K19)
  refine wp_seq_k ?_
  intro K23 hK23
  refine wp_block ?_
  refine wrp [.p 0, .p 1, .p 2, .p 3, .p 4, .p 5, .p 6, .p 8, .p 9, .p 10, .p 11, .p 12, .q 7, .p 13, .p 14, .e 15] ?_
  refine pm (pm ?_);simp only [nf]
  refine pp rfl rfl (pr_bin rfl rfl (by first | exact bin_sub_n (m := 11) (by first | omega | (simp <;> omega)) (by first | omega | (simp <;> omega)) | exact bin_sub_i (by first | omega | (simp <;> omega)) (by first | omega | (simp <;> omega)))) ?_;simp only [nf]
  refine pm (pm ?_);simp only [nf]
  refine pp rfl rfl (pr_bin rfl rfl (by first | exact bin_sub_n (m := 11) (by first | omega | (simp <;> omega)) (by first | omega | (simp <;> omega)) | exact bin_sub_i (by first | omega | (simp <;> omega)) (by first | omega | (simp <;> omega)))) ?_;simp only [nf]
  refine pp rfl rfl (pr_idx_Sl (OwnC.sl hH 0 rfl hO) rfl rfl Tryd.underlying22 sz5 (by first | omega | (simp <;> omega))) ?_;simp only [nf]
  refine pm (pm ?_);simp only [nf]
  refine pp rfl rfl (pr_bin rfl rfl (by first | exact bin_mul_n (m := 8) (by first | omega | (simp <;> omega)) | exact bin_mul_i (by first | omega | (simp <;> omega)) (by first | omega | (simp <;> omega)))) ?_;simp only [nf]
  refine pp rfl rfl (pr_bin rfl rfl (by first | exact bin_shr_n (by first | omega | (simp <;> omega)) | exact bin_shr_i (by first | omega | (simp <;> omega)))) ?_;simp only [nf]
  refine pp rfl rfl (pr_conv rfl (by first | exact cnv_n_u8 Tryd.underlying3 Tryd.underlying5 | exact cnv_i_u8 Tryd.underlying3 Tryd.underlying5)) ?_;simp only [nf]
  refine pq rfl rfl (qr_load1 rfl Tryd.underlying5 rfl (Sl.cell (OwnC.sl hH 0 rfl hO) (by first | omega | (simp <;> omega)))) ?_;simp only [nf]
  refine pp rfl rfl (pr_bin rfl rfl (bin_xor_u8 _ _)) ?_;simp only [nf]
  refine pp rfl rfl (pr_idx_Sl (OwnC.sl hH 0 rfl hO) rfl rfl Tryd.underlying22 sz5 (by first | omega | (simp <;> omega))) ?_;simp only [nf]
  refine plan_storeO 0 rfl rfl hH rfl rfl hO rfl sz5 (by first | omega | (simp <;> omega)) ?_
  clear hH
  intro cs25 w24 hO26 hH
  (try simp only [nf, nh, Value.cells, arrB_set] at hH ⊢)
  refine plan_nil hH ?_
  clear hH
  intro w27 hH
  refine hK23 _ _ ?_
  (try clear hK23 K23)
  refine wrt [.p 0, .p 1, .p 2] ?_
  refine pm ?_;simp only [nf]
  refine pp rfl rfl (pr_bin rfl rfl (by first | exact bin_add_n (n := 1) (by first | omega | (simp <;> omega)) | exact bin_add_i (by first | omega | (simp <;> omega)) (by first | omega | (simp <;> omega)))) ?_;simp only [nf]
  refine pa ?_;simp only [nf]
  refine plan_nil hH ?_
  clear hH
  intro w28 hH
  (try simp only [Exit.then, Exit.inBlock, ↓reduceIte, Nat.reduceEqDiff])
  refine ⟨8 - (i + 1), ?_, _, rfl, by kernel_rfl, ?_⟩
  · first | omega | (omega)
  simp only [ga]
  refine ⟨i + 1, cs25, rfl, ?_, rfl, ?_, ?_⟩
  ·
   exact hH
  · first | omega | (omega)
  · first | omega | (unfold nonL; exact hO26)
 ·
  (try simp only [cnd] at hc22)
  refine wp_exit ?_
  (try simp only [Exit.then, Exit.inBlock, ↓reduceIte, Nat.reduceEqDiff])
  refine hK10 _ _ ?_
  (try clear hK10 K10)
  refine wp_seq_k ?_
  intro K29 hK29
  refine wrt [.p 0, .q 1, .p 2] ?_
  refine pm ?_;simp only [nf]
  refine pq rfl rfl (qr_b2s (OwnC.sl hH 0 rfl hO) rfl Tryd.underlying22 Tryd.underlying5 Tryd.underlying9) ?_;simp only [nf]
  refine pa ?_;simp only [nf]
  refine plan_nil hH ?_
  clear hH
  intro w30 hH
  refine hK29 _ _ ?_
  (try clear hK29 K29)
  refine wp_ret ?_
  (try simp only [Exit.then, Exit.inBlock, ↓reduceIte, Nat.reduceEqDiff])
  refine BP.ret1 rfl rfl ?_
  obtain rfl : i = 8 := by omega
  exact ⟨rfl, hH.chg⟩
end Go.Proofs.YtmoaddicejohgaaDoor
set_option linter.unusedSimpArgs false
set_option linter.unusedVariables false
namespace Go.Proofs.YtmoaddicejohgaaDoor
open Go
section
variable {P : Program} {t : TypeId} {x y : Operand}
theorem bin_or_n {m n : Nat} (hm : m < 9223372036854775808) (hn : n < 9223372036854775808) : Bin P .or t x y (I64 m) (I64 n) (I64 (m ||| n : Nat)) := bin_of_int fun w => by
  simp only [binOp, Op.intBits, ofInt_nat]
  have h : (IntKind.i64.wrap (((BitVec.ofNat 64 m) ||| (BitVec.ofNat 64 n)).toNat : Int)) = ((m ||| n : Nat) : Int) := by
    have hb : m ||| n < 9223372036854775808 := Nat.or_lt_two_pow (n := 63) hm hn
    rw [BitVec.toNat_or, BitVec.toNat_ofNat, BitVec.toNat_ofNat, Nat.mod_eq_of_lt (by omega), Nat.mod_eq_of_lt (by omega)]
    exact wrap_i64_in _ (by omega) (by omega)
  show Result.ok (Value.int .i64 (IntKind.i64.wrap (((BitVec.ofNat 64 m) ||| (BitVec.ofNat 64 n)).toNat : Int))) w = _
  rw [h]
theorem bin_and_n {m n : Nat} (hm : m < 9223372036854775808) (hn : n < 9223372036854775808) : Bin P .and t x y (I64 m) (I64 n) (I64 (m &&& n : Nat)) := bin_of_int fun w => by
  simp only [binOp, Op.intBits, ofInt_nat]
  have h : (IntKind.i64.wrap (((BitVec.ofNat 64 m) &&& (BitVec.ofNat 64 n)).toNat : Int)) = ((m &&& n : Nat) : Int) := by
    have hb : m &&& n < 9223372036854775808 := Nat.and_lt_two_pow (n := 63) _ hn
    rw [BitVec.toNat_and, BitVec.toNat_ofNat, BitVec.toNat_ofNat, Nat.mod_eq_of_lt (by omega), Nat.mod_eq_of_lt (by omega)]
    exact wrap_i64_in _ (by omega) (by omega)
  show Result.ok (Value.int .i64 (IntKind.i64.wrap (((BitVec.ofNat 64 m) &&& (BitVec.ofNat 64 n)).toNat : Int))) w = _
  rw [h]
theorem bin_andNot_n {m n : Nat} (hm : m < 9223372036854775808) (hn : n < 9223372036854775808) : Bin P .andNot t x y (I64 m) (I64 n) (I64 (m &&& (18446744073709551615 - n) : Nat)) := bin_of_int fun w => by
  simp only [binOp, Op.intBits, ofInt_nat]
  have h : (IntKind.i64.wrap (((BitVec.ofNat 64 m) &&& ~~~(BitVec.ofNat 64 n)).toNat : Int)) = ((m &&& (18446744073709551615 - n) : Nat) : Int) := by
    have hb : m &&& (18446744073709551615 - n) ≤ m := Nat.and_le_left
    rw [BitVec.toNat_and, BitVec.toNat_not, BitVec.toNat_ofNat, BitVec.toNat_ofNat, Nat.mod_eq_of_lt (by omega), Nat.mod_eq_of_lt (by omega), show 2 ^ 64 - 1 - n = 18446744073709551615 - n from rfl]
    exact wrap_i64_in _ (by omega) (by omega)
  show Result.ok (Value.int .i64 (IntKind.i64.wrap (((BitVec.ofNat 64 m) &&& ~~~(BitVec.ofNat 64 n)).toNat : Int))) w = _
  rw [h]
end
end Go.Proofs.YtmoaddicejohgaaDoor
set_option linter.unusedSimpArgs false
set_option linter.unusedVariables false
set_option maxRecDepth 100000
set_option maxHeartbeats 4000000
namespace Go.Proofs.YtmoaddicejohgaaDoor
open Go
open List (getD_cons_zero getD_cons_succ set_cons_zero set_cons_succ)
def lowN (l : List UInt8) : Nat → Nat
  | 0 => 0
  | i + 1 => lowN l i * 2 ^ 8 ||| (l.getD i 0).toNat
theorem lowN_lt (l : List UInt8) : ∀ i, lowN l i < 2 ^ (8 * i)
  | 0 => Nat.zero_lt_one
  | i + 1 => by
    have ih := lowN_lt l i
    unfold lowN
    have h2 : (2 : Nat) ^ (8 * (i + 1)) = 2 ^ (8 * i) * 2 ^ 8 := by rw [← Nat.pow_add]; rfl
    refine Nat.or_lt_two_pow ?_ ?_
    · rw [h2]; exact Nat.mul_lt_mul_of_pos_right ih (by decide)
    · have := lt_u8 (l.getD i 0)
      have h3 : 1 ≤ 2 ^ (8 * i) := Nat.one_le_two_pow
      rw [h2]
      calc (l.getD i 0).toNat < 256 := this
        _ = 1 * 2 ^ 8 := rfl
        _ ≤ 2 ^ (8 * i) * 2 ^ 8 := Nat.mul_le_mul_right _ h3
theorem lowN_32 (l : List UInt8) (i : Nat) (h : i ≤ 4) : lowN l i < 4294967296 := Nat.lt_of_lt_of_le (lowN_lt l i) (by
  have : (2 : Nat) ^ (8 * i) ≤ 2 ^ 32 := Nat.pow_le_pow_right (by decide) (by omega)
  exact this)
theorem low_calls (v : Value) (l : List UInt8) (w : World) (hv : Sl w v l) (hl : l.length ≤ 4) : Ret Tryd.prog 28 #[v] w fun v' w' => v' = I64 (lowN l l.length : Nat) ∧ Chg [] w w' := by
 refine Ret.enter Tryd.func28 rfl ?_
 simp only [Tryd.ntmps28, fe, Nat.reduceAdd, Nat.reduceSub]
 have hH := Hp.start [] w
 refine wp_seq_k ?_
 intro K1 hK1
 refine wrt [.p 0] ?_
 refine pka 0 ?_;simp only [nf]
 refine plan_nil hH ?_
 clear hH
 intro w2 hH
 refine hK1 _ _ ?_
 (try clear hK1 K1)
 refine wp_seq_k ?_
 intro K3 hK3
 refine wrt [.p 0] ?_
 refine pka 0 ?_;simp only [nf]
 refine plan_nil hH ?_
 clear hH
 intro w4 hH
 refine hK3 _ _ ?_
 (try clear hK3 K3)
 refine wp_seq_k ?_
 intro K5 hK5
 refine wp_seq_k ?_
 intro K6 hK6
 refine wrt [.p 0, .p 1, .p 2] ?_
 refine pm ?_;simp only [nf]
 refine pp rfl rfl (pr_len_Sl (hv.chg hH.chg) rfl Tryd.underlying22) ?_;simp only [nf]
 refine pk 0 ?_;simp only [nf]
 refine plan_nil hH ?_
 clear hH
 intro w7 hH
 refine hK6 _ _ ?_
 (try clear hK6 K6)
 refine wp_block ?_
 refine wp_loopT [3, 8] [5, 9, 10, 11, 12, 13, 14, 15, 16, 17] (fun (n8 : Nat) (vs : List Value) (w' : World) => ∃ (i : Nat), vs = [I64 (lowN l i : Nat), I64 (i : Nat)] ∧ Hp [] w w' [] ∧ n8 = l.length - i ∧ i ≤ l.length) (l.length - 0) (by kernel_rfl) ?_ ?_
 ·
  simp only [ga]
  refine ⟨0, rfl, ?_, rfl, ?_⟩
  ·
   exact hH
  · first | omega | (omega)
 clear hH
 intro n8 vs9 w10 hR11 d0
 obtain ⟨i, rfl, hH, hn12, hf13⟩ := hR11
 simp only [putAll, putD, List.set_cons_zero, List.set_cons_succ, Nat.zero_add, Nat.reduceAdd]
 have hlw := lowN_32 l i (by omega)
 refine wp_seq_k ?_
 intro K14 hK14
 refine wrt [.p 0] ?_
 refine pp rfl rfl (pr_bin rfl rfl (by first | exact bin_lss_n  | exact bin_lss_i)) ?_;simp only [nf]
 refine plan_nil hH ?_
 clear hH
 intro w15 hH
 refine hK14 _ _ ?_
 (try clear hK14 K14)
 refine wp_seq_k ?_
 intro K16 hK16
 refine wp_cond_split rfl (fun hc17 => ?_) (fun hc17 => ?_)
 ·
  (try simp only [cnd] at hc17)
  refine wp_skip ?_
  refine hK16 _ _ ?_
  (try clear hK16 K16)
  refine wp_seq_k ?_
  intro K18 hK18
  refine wp_block ?_
  refine wp_seq_k ?_
  intro K19 hK19
  refine wrt [.p 0, .q 1, .p 2] ?_
  refine pp rfl rfl (pr_idx_Sl (hv.chg hH.chg) rfl rfl Tryd.underlying22 sz5 (by first | omega | (first | omega | (have := lt_u8 (l.getD i 0); omega)))) ?_;simp only [nf]
  refine pq rfl rfl (qr_load1 rfl Tryd.underlying5 rfl (Sl.cell (hv.chg hH.chg) (by first | omega | (first | omega | (have := lt_u8 (l.getD i 0); omega))))) ?_;simp only [nf]
  refine pa ?_;simp only [nf]
  refine plan_nil hH ?_
  clear hH
  intro w20 hH
  refine hK19 _ _ ?_
  (try clear hK19 K19)
  refine wrt [.p 0, .p 1, .p 2, .p 3, .p 4, .p 5] ?_
  refine pm ?_;simp only [nf]
  refine pp rfl rfl (pr_bin rfl rfl (bin_shl_n (c := 8) (by decide) (by first | omega | (first | omega | (have := lt_u8 (l.getD i 0); omega))))) ?_;simp only [nf]
  refine pm ?_;simp only [nf]
  refine pp rfl rfl (pr_conv rfl (cnv_u8_n _ Tryd.underlying5 Tryd.underlying3)) ?_;simp only [nf]
  refine pp rfl rfl (pr_bin rfl rfl (by first | exact bin_or_n (by first | omega | (first | omega | (have := lt_u8 (l.getD i 0); omega))) (by first | omega | (first | omega | (have := lt_u8 (l.getD i 0); omega))))) ?_;simp only [nf]
  refine pa ?_;simp only [nf]
  refine plan_nil hH ?_
  clear hH
  intro w21 hH
  refine hK18 _ _ ?_
  (try clear hK18 K18)
  refine wrt [.p 0, .p 1] ?_
  refine pp rfl rfl (pr_bin rfl rfl (by first | exact bin_add_n (n := 1) (by first | omega | (first | omega | (have := lt_u8 (l.getD i 0); omega))) | exact bin_add_i (by first | omega | (first | omega | (have := lt_u8 (l.getD i 0); omega))) (by first | omega | (first | omega | (have := lt_u8 (l.getD i 0); omega))))) ?_;simp only [nf]
  refine pm ?_;simp only [nf]
  refine plan_nil hH ?_
  clear hH
  intro w22 hH
  (try simp only [Exit.then, Exit.inBlock, ↓reduceIte, Nat.reduceEqDiff])
  refine ⟨l.length - (i + 1), ?_, _, rfl, by kernel_rfl, ?_⟩
  · first | omega | (omega)
  simp only [ga]
  refine ⟨i + 1, rfl, ?_, rfl, ?_⟩
  ·
   exact hH
  · first | omega | (omega)
 ·
  (try simp only [cnd] at hc17)
  refine wp_exit ?_
  (try simp only [Exit.then, Exit.inBlock, ↓reduceIte, Nat.reduceEqDiff])
  refine hK5 _ _ ?_
  (try clear hK5 K5)
  refine wp_seq_k ?_
  intro K23 hK23
  refine wrt [.p 0, .p 1] ?_
  refine pm (pa ?_);simp only [nf]
  refine plan_nil hH ?_
  clear hH
  intro w24 hH
  refine hK23 _ _ ?_
  (try clear hK23 K23)
  refine wp_ret ?_
  (try simp only [Exit.then, Exit.inBlock, ↓reduceIte, Nat.reduceEqDiff])
  refine BP.ret1 rfl rfl ?_
  obtain rfl : i = l.length := by omega
  exact ⟨rfl, hH.chg⟩
theorem within_calls (a b c : Nat) (w : World) (h : b ≤ a ∧ a ≤ c) : Ret Tryd.prog 49 #[I64 a, I64 b, I64 c] w fun v w' => v = BV true ∧ Chg [] w w' := by
 refine Ret.enter Tryd.func49 rfl ?_
 simp only [Tryd.ntmps49, fe, Nat.reduceAdd, Nat.reduceSub]
 have hH := Hp.start [] w
 refine wp_seq_k ?_
 intro K1 hK1
 refine wrt [.p 0] ?_
 refine pa ?_;simp only [nf]
 refine plan_nil hH ?_
 clear hH
 intro w2 hH
 refine hK1 _ _ ?_
 (try clear hK1 K1)
 refine wp_seq_k ?_
 intro K3 hK3
 refine wrt [.p 0, .p 1, .p 2, .p 3, .p 4, .p 5, .p 6, .p 7, .p 8] ?_
 refine pm (pm ?_);simp only [nf]
 refine pp rfl rfl (pr_bin rfl rfl (by first | exact bin_geq_n  | exact bin_geq_i)) ?_;simp only [nf]
 refine plan_p (v := BV true) rfl rfl (pr_move_v (by show BV _ = _; exact congrArg BV (decide_eq_true (by omega)))) ?_
 (try simp only [nf])
 refine pp rfl rfl pr_move ?_;simp only [nf]
 refine pp rfl rfl pr_move ?_;simp only [nf]
 refine pp rfl rfl (pr_bin rfl rfl (by first | exact bin_leq_n  | exact bin_leq_i)) ?_;simp only [nf]
 refine pp rfl rfl (pr_pick_t rfl) ?_;simp only [nf]
 refine pa ?_;simp only [nf]
 refine plan_nil hH ?_
 clear hH
 intro w4 hH
 refine hK3 _ _ ?_
 (try clear hK3 K3)
 refine wp_ret ?_
 (try simp only [Exit.then, Exit.inBlock, ↓reduceIte, Nat.reduceEqDiff])
 refine BP.ret1 rfl rfl ?_
 exact ⟨congrArg BV (decide_eq_true h.2), hH.chg⟩
end Go.Proofs.YtmoaddicejohgaaDoor
set_option linter.unusedSimpArgs false
set_option linter.unusedVariables false
namespace Go.Proofs.YtmoaddicejohgaaDoor
open Go
theorem Hp.join {S : List Nat} {w0 w w' : World} {L es : List Own} (h : Hp S w0 w L) (k : Hp [] w w' es) : Hp S w0 w' (L ++ es) where
  chg := h.chg.trans' k.chg (by simp)
  own x hx b hb := by
    rcases List.mem_append.1 hx with hx | hx
    · exact (h.call k.chg).own x hx b hb
    · obtain ⟨h1, h2⟩ := k.own x hx b hb
      refine ⟨.inl (Nat.le_trans h.chg.size (h1.resolve_right (by simp))), h2⟩
  apart i j b hi hj := by
    have key : ∀ m : Nat, ((L ++ es)[m]?).bind Own.at = some b → (m < L.length ∧ (L[m]?).bind Own.at = some b) ∨ (L.length ≤ m ∧ (es[m - L.length]?).bind Own.at = some b) := by
      intro m hm
      rw [List.getElem?_append] at hm
      split at hm
      · rename_i h1; exact .inl ⟨h1, hm⟩
      · rename_i h1; exact .inr ⟨by omega, hm⟩
    have cross : ∀ m m' : Nat, (L[m]?).bind Own.at = some b → (es[m']?).bind Own.at = some b → False := by
      intro m m' h1 h2
      obtain ⟨x, hx, hxb⟩ := Option.bind_eq_some_iff.1 h1
      obtain ⟨y, hy, hyb⟩ := Option.bind_eq_some_iff.1 h2
      have a1 := h.lt (List.mem_of_getElem? hx) hxb
      have a2 := (k.own y (List.mem_of_getElem? hy) b hyb).1.resolve_right (by simp)
      omega
    rcases key i hi with ⟨a1, a2⟩ | ⟨a1, a2⟩ <;> rcases key j hj with ⟨c1, c2⟩ | ⟨c1, c2⟩
    · exact h.apart i j b a2 c2
    · exact (cross _ _ a2 c2).elim
    · exact (cross _ _ c2 a2).elim
    · have := k.apart _ _ b a2 c2; omega
theorem Hp.pick1 {S : List Nat} {w0 w : World} {L : List Own} (h : Hp S w0 w L) (i : Nat) {e : Own} (hi : L[i]? = some e) : Hp S w0 w [e] :=
  (h.take 0).add e (fun b hb => h.own e (List.mem_of_getElem? hi) b hb) (fun x hx => by simp at hx)
theorem Hp.pick2 {S : List Nat} {w0 w : World} {L : List Own} (h : Hp S w0 w L) (i j : Nat) {e e' : Own} (hi : L[i]? = some e) (hj : L[j]? = some e') (hij : i ≠ j) : Hp S w0 w [e, e'] := by
  refine (h.pick1 i hi).add e' (fun b hb => h.own e' (List.mem_of_getElem? hj) b hb) (fun x hx b hb hxb => ?_)
  simp only [List.mem_singleton] at hx
  subst hx
  exact hij (h.apart i j b (by rw [hi]; exact hxb) (by rw [hj]; exact hb))
theorem BP.ret4 {P : Program} {fn : Func} {Post : Value → World → Prop} {tm : List Value} {w : World} {t1 t2 t3 t4 : Tmp} {v1 v2 v3 v4 : Value} (hr : fn.results = #[.tmp t1, .tmp t2, .tmp t3, .tmp t4]) (h1 : tm.getD t1 undef = v1) (h2 : tm.getD t2 undef = v2) (h3 : tm.getD t3 undef = v3) (h4 : tm.getD t4 undef = v4) (h : Post (.tuple #[v1, v2, v3, v4]) w) : BP P fn Post .ret ⟨tm.toArray, []⟩ w :=
  .of (v := .tuple #[v1, v2, v3, v4]) (by subst h1; subst h2; subst h3; subst h4; simp [results, hr]) rfl h
section
variable {P : Program} {ops : List Oper} {Q : Exit → Act → World → Prop} {r : List PStep} {a : Act} {w : World} {i j : Nat} {d : Option Tmp} {ty : TypeId} {pos : String} {af : Array Edge} {g : Option (Nat × Bool)} {x y c : Operand} {t t' T : TypeId} {o : Oper} {v : Value} {b : Bool}
theorem wanted_of {pol : Bool} (hg : o.guard = some (j, pol)) (hy : yielded ops.toArray a.tmps j = some b) : Region.wanted o (yielded ops.toArray a.tmps) = (b == pol) := by
  unfold Region.wanted; rw [hg]; simp only [hy]; cases b <;> cases pol <;> rfl
theorem plan_pc_t (ho : ops[i]? = some o) (hg : o.guard = some (j, true)) (hy : yielded ops.toArray a.tmps j = some b) (hrun : b = true → PRun P o a v) (h : wpPlan P ops.toArray Q r (a.put o.dst (cond b v undef)) w) : wpPlan P ops.toArray Q (.p i :: r) a w := by
  cases b with
  | true => exact plan_p ho (by rw [wanted_of hg hy]; rfl) (hrun rfl) h
  | false => exact plan_ps ho (by rw [wanted_of hg hy]; rfl) h
theorem plan_pc_f (ho : ops[i]? = some o) (hg : o.guard = some (j, false)) (hy : yielded ops.toArray a.tmps j = some b) (hrun : b = false → PRun P o a v) (h : wpPlan P ops.toArray Q r (a.put o.dst (cond b undef v)) w) : wpPlan P ops.toArray Q (.p i :: r) a w := by
  cases b with
  | false => exact plan_p ho (by rw [wanted_of hg hy]; rfl) (hrun rfl) h
  | true => exact plan_ps ho (by rw [wanted_of hg hy]; rfl) h
theorem plan_qc_f (ho : ops[i]? = some o) (hg : o.guard = some (j, false)) (hy : yielded ops.toArray a.tmps j = some b) (hrun : b = false → QRun P o a w v) (h : wpPlan P ops.toArray Q r (a.put o.dst (cond b undef v)) w) : wpPlan P ops.toArray Q (.q i :: r) a w := by
  cases b with
  | false => exact plan_q ho (by rw [wanted_of hg hy]; rfl) (hrun rfl) h
  | true => exact plan_qs ho (by rw [wanted_of hg hy]; rfl) h
theorem pr_pick_or {b' : Bool} (hc : a.eval c = .bool b) (hx : a.eval x = .bool true) (hy : a.eval y = cond b undef (.bool b')) : PRun P ⟨d, .pick c x y, ty, pos, af, g⟩ a (BV (b || b')) := by
  have h := pr_pick (P := P) (d := d) (ty := ty) (pos := pos) (af := af) (g := g) (x := x) (y := y) hc
  cases b with
  | true => rw [if_pos rfl, hx] at h; exact h
  | false => rw [if_neg (by decide), hy] at h; exact h
theorem pr_pick_and {b' : Bool} (hc : a.eval c = .bool b) (hx : a.eval x = cond b (.bool b') undef) (hy : a.eval y = .bool false) : PRun P ⟨d, .pick c x y, ty, pos, af, g⟩ a (BV (b && b')) := by
  have h := pr_pick (P := P) (d := d) (ty := ty) (pos := pos) (af := af) (g := g) (x := x) (y := y) hc
  cases b with
  | true => rw [if_pos rfl, hx] at h; exact h
  | false => rw [if_neg (by decide), hy] at h; exact h
theorem pr_index_strD {k : IntKind} {i : Nat} {s : ByteArray} (hx : a.eval x = .string s) (hy : a.eval y = .int k (i : Int)) (hu : P.underlying t = some .string) (hi : i < s.size) :
    PRun P ⟨d, .index t x y, ty, pos, af, g⟩ a (V8 (s.data.toList.getD i 0)) := by
  have h := pr_index_str (P := P) (d := d) (ty := ty) (pos := pos) (af := af) (g := g) hx hy hu hi
  have e : s[i]'hi = s.data.toList.getD i 0 := by
    have hi2 : i < s.data.toList.length := by simpa using hi
    simp only [List.getD, List.getElem?_eq_getElem hi2, Option.getD_some, Array.getElem_toList]; rfl
  rw [e] at h; exact h
theorem qr_loadL {D : TypeDesc} {b o n : Nat} {l : List Value} (hx : a.eval x = PT b o) (hb : Blk w b T l.toArray) (hu : P.underlying t = some D) (hD : isAggD D = true) (hs : szc P t = some n) (hn : o + n ≤ l.length) :
    QRun P ⟨d, .load t x, ty, pos, af, g⟩ a w (.agg ((l.drop o).take n).toArray) := by
  have h := qr_loadN (d := d) (ty := ty) (pos := pos) (af := af) (g := g) hx hb hu hD hs (by simpa using hn)
  have e : l.toArray.extract o (o + n) = ((l.drop o).take n).toArray := by
    apply Array.ext'
    rw [Array.toList_extract, List.extract_eq_take_drop, Nat.add_sub_cancel_left]
  rw [e] at h; exact h
theorem bin_shr_i {m : Int} {cc : Nat} {k : IntKind} (hc : cc < 64) : Bin P .shr t x y (I64 m) (.int k (cc : Int)) (I64 (m / 2 ^ cc)) := bin_of_int fun w => by
  have h0 : ¬ ((cc : Int) < 0) := by omega
  show (Op.shift .shr .i64 m k (cc : Int)).run P w = _
  have e : Int.fdiv m (2 ^ (min cc 64)) = m / 2 ^ cc := by
    rw [Nat.min_eq_left (by omega), Int.fdiv_eq_ediv_of_nonneg _ (Int.le_of_lt (Int.pow_pos (by decide)))]
  simp only [Op.shift, h0, if_false, Int.toNat_natCast, IntKind.bits, e]
  rfl
theorem OwnC.some {o : Option Nat} {n cap s : Nat} {cs : Array Value} {xs : List Value} (h : OwnC o n cap s cs xs) (hn : 0 < n) : ∃ b, o = some b := by
  cases o with
  | none => have := h.nil rfl; have := h.le; omega
  | some b => exact ⟨b, rfl⟩
theorem run_eqGuard_slice (P : Program) (op : BinOp) (t : TypeId) (x y : Operand) (ad : Option Addr) (n k : Nat) (v : Value) (w : World) : (eqGuard op t x y (.slice ad n k) v).run P w = .ok () w := by
  unfold eqGuard; cases op <;> rfl
theorem bin_eql_slnil {e : TypeId} {ad : Option Addr} {n k : Nat} (hu : P.underlying t = some (.slice e)) : Bin P .eql t x y (.slice ad n k) (.slice none 0 0) (BV ad.isNone) := fun w => by
  rw [Sem.run_bind, run_eqGuard_slice]
  exact run_binOp_eql rfl (fun d w => by cases ad <;> simp [Op.equalIn, run_underlying hu]) w
theorem bin_eql_Sl {e : TypeId} {v : Value} {l : List UInt8} (h : Sl w v l) (hne : l ≠ []) (hu : P.underlying t = some (.slice e)) : Bin P .eql t x y v (.slice none 0 0) (BV false) := by
  obtain ⟨ad, c, rfl, _, hr⟩ := h
  obtain ⟨b, o, rfl, _⟩ := hr hne
  exact bin_eql_slnil hu
end
theorem gsl : (∀ a b : Bool, ((a || b) = false) = (a = false ∧ b = false)) ∧ (∀ a b : Bool, ((a || b) = true) = (a = true ∨ b = true)) ∧ (∀ a b : Bool, ((a && b) = true) = (a = true ∧ b = true)) ∧ (∀ a b : Bool, ((a && b) = false) = (a = false ∨ b = false)) ∧
  (∀ a : Bool, ((!a) = true) = (a = false)) ∧ (∀ a : Bool, ((!a) = false) = (a = true)) ∧ (∀ (p : Prop) [Decidable p], (decide p = true) = p) ∧ (∀ (p : Prop) [Decidable p], (decide p = false) = ¬ p) ∧
  (∀ a b : Nat, ((a == b) = true) = (a = b)) ∧ (∀ a b : Nat, ((a == b) = false) = ¬ (a = b)) ∧ (∀ a b : Nat, ((a != b) = true) = ¬ (a = b)) ∧ (∀ a b : Nat, ((a != b) = false) = (a = b)) ∧
  (∀ a b : Int, ((a == b) = true) = (a = b)) ∧ (∀ a b : Int, ((a == b) = false) = ¬ (a = b)) ∧ (∀ a b : Int, ((a != b) = true) = ¬ (a = b)) ∧ (∀ a b : Int, ((a != b) = false) = (a = b)) ∧
  (∀ a b : UInt8, ((a == b) = true) = (a = b)) ∧ (∀ a b : UInt8, ((a == b) = false) = ¬ (a = b)) ∧ (∀ a b : UInt8, ((a != b) = true) = ¬ (a = b)) ∧ (∀ a b : UInt8, ((a != b) = false) = (a = b)) ∧
  (∀ a b : List UInt8, ((a == b) = true) = (a = b)) ∧ (∀ a b : List UInt8, ((a == b) = false) = ¬ (a = b)) ∧
  (∀ a b : Nat, (¬ a < b) = (b ≤ a)) ∧ (∀ a b : Nat, (¬ a ≤ b) = (b < a)) ∧ (∀ a b : Int, (¬ a < b) = (b ≤ a)) ∧ (∀ a b : Int, (¬ a ≤ b) = (b < a)) ∧
  (∀ a b : Nat, (a > b) = (b < a)) ∧ (∀ a b : Nat, (a ≥ b) = (b ≤ a)) ∧ (∀ a b : Int, (a > b) = (b < a)) ∧ (∀ a b : Int, (a ≥ b) = (b ≤ a)) := by
  refine ⟨by simp, by simp, by simp, by simp, by simp, by simp, fun p _ => by simp, fun p _ => by simp, ?_, ?_, ?_, ?_, ?_, ?_, ?_, ?_, ?_, ?_, ?_, ?_, ?_, ?_, ?_, ?_, ?_, ?_, fun _ _ => rfl, fun _ _ => rfl, fun _ _ => rfl, fun _ _ => rfl⟩
  all_goals intro a b
  all_goals simp
end Go.Proofs.YtmoaddicejohgaaDoor
set_option linter.unusedSimpArgs false
set_option linter.unusedVariables false
set_option maxRecDepth 100000
set_option maxHeartbeats 4000000
namespace Go.Proofs.YtmoaddicejohgaaDoor
open Go
open List (getD_cons_zero getD_cons_succ set_cons_zero set_cons_succ)
def wholeN (low size e : Nat) : Nat :=
  if e / 2 ^ (8 * size) * 2 ^ (8 * size) + low + 2 ^ (8 * size) / 2 ≤ e ∧ e / 2 ^ (8 * size) * 2 ^ (8 * size) + low + 2 ^ (8 * size) ≤ 4611686018427387903 then e / 2 ^ (8 * size) * 2 ^ (8 * size) + low + 2 ^ (8 * size)
  else if e + 2 ^ (8 * size) / 2 < e / 2 ^ (8 * size) * 2 ^ (8 * size) + low ∧ 2 ^ (8 * size) ≤ e / 2 ^ (8 * size) * 2 ^ (8 * size) + low then e / 2 ^ (8 * size) * 2 ^ (8 * size) + low - 2 ^ (8 * size)
  else e / 2 ^ (8 * size) * 2 ^ (8 * size) + low
theorem whole_bits (e low k : Nat) (hl : low < 2 ^ k) (he : e < 9223372036854775808) (hk : k ≤ 32) : (e &&& (18446744073709551615 - (2 ^ k - 1))) ||| low = e / 2 ^ k * 2 ^ k + low := by
  have h1 : e / 2 ^ k * 2 ^ k + low = (e / 2 ^ k * 2 ^ k) ||| low := by
    rw [Nat.mul_comm, Nat.two_pow_add_eq_or_of_lt hl]
  rw [h1]
  congr 1
  apply Nat.eq_of_testBit_eq
  intro i
  have hp : 2 ^ k ≤ 2 ^ 32 := Nat.pow_le_pow_right (by decide) hk
  have h64 : (2 : Nat) ^ 64 = 18446744073709551616 := rfl
  have e1 : 18446744073709551615 - (2 ^ k - 1) = 2 ^ 64 - (2 ^ k - 1 + 1) := by omega
  have hp0 : 0 < 2 ^ k := Nat.two_pow_pos k
  have h6432 : (2 : Nat) ^ 32 ≤ 2 ^ 64 := Nat.pow_le_pow_right (by decide) (by decide)
  rw [Nat.testBit_and, e1, Nat.testBit_two_pow_sub_succ (by omega), Nat.testBit_two_pow_sub_one, Nat.mul_comm, Nat.testBit_two_pow_mul, Nat.testBit_div_two_pow]
  by_cases hik : i < k
  · rw [decide_eq_true hik]
    have : decide (i ≥ k) = false := decide_eq_false (by omega)
    rw [this]; simp
  · have : decide (i ≥ k) = true := decide_eq_true (by omega)
    rw [decide_eq_false hik, this]
    by_cases hi : i < 64
    · rw [decide_eq_true hi, show i - k + k = i by omega]; simp
    · have h2 : e.testBit i = false := Nat.testBit_lt_two_pow (Nat.lt_of_lt_of_le he (by
        have : (2 : Nat) ^ 64 ≤ 2 ^ i := Nat.pow_le_pow_right (by decide) (by omega)
        omega))
      rw [show i - k + k = i by omega, h2]; simp
theorem pow_size (s : Nat) (h1 : 1 ≤ s) (h4 : s ≤ 4) : 256 ≤ 2 ^ (8 * s) ∧ 2 ^ (8 * s) ≤ 4294967296 ∧ 2 ^ (8 * s) % 2 = 0 := by
  obtain rfl | rfl | rfl | rfl : s = 1 ∨ s = 2 ∨ s = 3 ∨ s = 4 := by omega
  all_goals decide
theorem pkwhole_calls (low size e : Nat) (w : World) (h1 : 1 ≤ size) (h4 : size ≤ 4) (hl : low < 2 ^ (8 * size)) (he : e ≤ 4611686018427387903) : Ret Tryd.prog 35 #[I64 low, I64 size, I64 e] w fun v w' => v = .tuple #[I64 (wholeN low size e : Nat), I64 (0 : Nat)] ∧ Chg [] w w' := by
 obtain ⟨hw1, hw2, hw3⟩ := pow_size size h1 h4
 have hwb := whole_bits e low (8 * size) hl (by omega) (by omega)
 have hdm : e / 2 ^ (8 * size) * 2 ^ (8 * size) ≤ e := Nat.div_mul_le_self _ _
 have hand : e &&& (18446744073709551615 - (2 ^ (8 * size) - 1)) ≤ e := Nat.and_le_left
 refine Ret.enter Tryd.func35 rfl ?_
 simp only [Tryd.ntmps35, fe, Nat.reduceAdd, Nat.reduceSub]
 have hH := Hp.start [] w
 refine wp_seq_k ?_
 intro K1 hK1
 refine wrt [.p 0, .p 1] ?_
 refine pka 0 (pka 0 ?_);simp only [nf]
 refine plan_nil hH ?_
 clear hH
 intro w2 hH
 refine hK1 _ _ ?_
 (try clear hK1 K1)
 refine wp_seq_k ?_
 intro K3 hK3
 refine wp_seq_k ?_
 intro K4 hK4
 refine wrt [.p 0, .q 1, .p 2, .p 3, .p 4, .p 5, .p 6, .p 7, .p 8, .q 9, .p 10, .p 11, .p 12, .p 13, .q 14, .p 15, .p 16] ?_
 refine pm ?_;simp only [nf]
 refine pq rfl rfl (qr_call cf49 (fun w' hw => within_calls _ 1 4 w' (by omega)) rfl) ?_;simp only [nf]
 refine pp rfl rfl (pr_not rfl) ?_;simp only [nf]
 refine plan_p (v := BV false) rfl rfl (pr_move_v rfl) ?_
 (try simp only [nf])
 refine pp rfl rfl pr_move ?_;simp only [nf]
 refine pp rfl rfl pr_move ?_;simp only [nf]
 refine pp rfl rfl (pr_bin rfl rfl (by first | exact bin_mul_n (m := 8) (by omega) | exact bin_mul_i (by omega) (by omega))) ?_;simp only [nf]
 refine pp rfl rfl (pr_bin rfl rfl (bin_shl_n (m := 1) (by omega) (by omega))) ?_;simp only [nf]
 refine pp rfl rfl (pr_bin rfl rfl (by first | exact bin_sub_n (n := 1) (by omega) (by omega) | exact bin_sub_i (by omega) (by omega))) ?_;simp only [nf]
 refine pq rfl rfl (qr_call cf49 (fun w' hw => within_calls _ 0 _ w' (by omega)) rfl) ?_;simp only [nf]
 refine pp rfl rfl (pr_not rfl) ?_;simp only [nf]
 refine pp rfl rfl (pr_pick_f rfl) ?_;simp only [nf]
 refine plan_p (v := BV false) rfl rfl (pr_move_v rfl) ?_
 (try simp only [nf])
 refine pp rfl rfl pr_move ?_;simp only [nf]
 refine pq rfl rfl (qr_call cf49 (fun w' hw => within_calls _ 0 4611686018427387903 w' (by omega)) rfl) ?_;simp only [nf]
 refine pp rfl rfl (pr_not rfl) ?_;simp only [nf]
 refine pp rfl rfl (pr_pick_f rfl) ?_;simp only [nf]
 refine plan_nil hH ?_
 clear hH
 intro w5 hH
 refine hK4 _ _ ?_
 (try clear hK4 K4)
 refine wp_cond_false rfl ?_
 refine wp_skip ?_
 refine hK3 _ _ ?_
 (try clear hK3 K3)
 refine wp_seq_k ?_
 intro K6 hK6
 refine wrt [.p 0, .p 1, .p 2, .p 3] ?_
 refine pm ?_;simp only [nf]
 refine pp rfl rfl (pr_bin rfl rfl (by first | exact bin_mul_n (m := 8) (by omega) | exact bin_mul_i (by omega) (by omega))) ?_;simp only [nf]
 refine pp rfl rfl (pr_bin rfl rfl (bin_shl_n (m := 1) (by omega) (by omega))) ?_;simp only [nf]
 refine pa ?_;simp only [nf]
 refine plan_nil hH ?_
 clear hH
 intro w7 hH
 simp only [Nat.one_mul]
 refine hK6 _ _ ?_
 (try clear hK6 K6)
 refine wp_seq_k ?_
 intro K8 hK8
 refine wrt [.p 0, .p 1, .p 2, .p 3, .p 4, .p 5, .p 6] ?_
 refine pm (pm ?_);simp only [nf]
 refine pp rfl rfl (pr_bin rfl rfl (by first | exact bin_sub_n (n := 1) (by omega) (by omega) | exact bin_sub_i (by omega) (by omega))) ?_;simp only [nf]
 refine pp rfl rfl (pr_bin rfl rfl (by first | exact bin_andNot_n (by omega) (by omega))) ?_;simp only [nf]
 refine pm ?_;simp only [nf]
 refine pp rfl rfl (pr_bin rfl rfl (by first | exact bin_or_n (by omega) (by omega))) ?_;simp only [nf]
 refine pa ?_;simp only [nf]
 refine plan_nil hH ?_
 clear hH
 intro w9 hH
 rw [hwb]
 refine hK8 _ _ ?_
 (try clear hK8 K8)
 refine wp_seq_k ?_
 intro K10 hK10
 refine wp_block ?_
 refine wp_seq_k ?_
 intro K11 hK11
 refine wrt [.p 0, .p 1, .p 2, .p 3, .p 4, .p 5, .p 6, .p 7, .p 8, .p 9, .p 10, .p 11, .p 12] ?_
 refine pm (pm (pm ?_));simp only [nf]
 refine pp rfl rfl (pr_bin rfl rfl (by first | exact bin_quo_n (n := 2) (by omega) (by omega))) ?_;simp only [nf]
 refine pp rfl rfl (pr_bin rfl rfl (by first | exact bin_sub_n (by omega) (by omega) | exact bin_sub_i (by omega) (by omega))) ?_;simp only [nf]
 refine pp rfl rfl (pr_bin rfl rfl (by first | exact bin_leq_n  | exact bin_leq_i)) ?_;simp only [nf]
 refine pm ?_;simp only [nf]
 refine plan_pc_t rfl rfl rfl (fun hb => by have hb' := hb; try simp only [gsl] at hb'; rw [hb]; exact pr_move) ?_
 (try simp only [nf])
 refine plan_pc_t rfl rfl rfl (fun hb => by have hb' := hb; try simp only [gsl] at hb'; rw [hb]; exact pr_move) ?_
 (try simp only [nf])
 refine plan_pc_t rfl rfl rfl (fun hb => by have hb' := hb; try simp only [gsl] at hb'; rw [hb]; exact (pr_bin rfl rfl (by first | exact bin_sub_n (m := 4611686018427387903) (by omega) (by omega) | exact bin_sub_i (by omega) (by omega)))) ?_
 (try simp only [nf])
 refine plan_pc_t rfl rfl rfl (fun hb => by have hb' := hb; try simp only [gsl] at hb'; rw [hb]; exact (pr_bin rfl rfl (by first | exact bin_leq_n  | exact bin_leq_i))) ?_
 (try simp only [nf])
 refine pp rfl rfl (pr_pick_and rfl rfl rfl) ?_;simp only [nf]
 refine pa ?_;simp only [nf]
 refine plan_nil hH ?_
 clear hH
 intro w12 hH
 refine hK11 _ _ ?_
 (try clear hK11 K11)
 refine wp_cond_split rfl (fun hc13 => ?_) (fun hc13 => ?_)
 ·
  (try simp only [cnd, Bool.and_eq_true, Bool.and_eq_false_iff, Bool.or_eq_true, Bool.or_eq_false_iff] at hc13)
  refine wp_seq_k ?_
  intro K14 hK14
  refine wrt [.p 0, .p 1, .p 2, .p 3, .p 4] ?_
  refine pm (pm ?_);simp only [nf]
  refine pp rfl rfl (pr_bin rfl rfl (by first | exact bin_add_n (by omega) | exact bin_add_i (by omega) (by omega))) ?_;simp only [nf]
  refine pa (pka 0 ?_);simp only [nf]
  refine plan_nil hH ?_
  clear hH
  intro w15 hH
  refine hK14 _ _ ?_
  (try clear hK14 K14)
  refine wp_ret ?_
  (try simp only [Exit.then, Exit.inBlock, ↓reduceIte, Nat.reduceEqDiff])
  refine BP.ret2 rfl rfl rfl ?_
  first | (exact ⟨congrArg (fun n : Nat => Value.tuple #[I64 (n : Nat), I64 (0 : Nat)]) (by unfold wholeN; rw [if_pos (by omega)]), hH.chg⟩) | (exact ⟨congrArg (fun n : Nat => Value.tuple #[I64 (n : Nat), I64 (0 : Nat)]) (by unfold wholeN; rw [if_neg (by omega), if_pos (by omega)]), hH.chg⟩) | (exact ⟨congrArg (fun n : Nat => Value.tuple #[I64 (n : Nat), I64 (0 : Nat)]) (by unfold wholeN; rw [if_neg (by omega), if_neg (by omega)]), hH.chg⟩)
 ·
  (try simp only [cnd, Bool.and_eq_true, Bool.and_eq_false_iff, Bool.or_eq_true, Bool.or_eq_false_iff] at hc13)
  refine wp_seq_k ?_
  intro K16 hK16
  refine wrt [.p 0, .p 1, .p 2, .p 3, .p 4, .p 5, .p 6, .p 7, .p 8, .p 9, .p 10, .p 11] ?_
  refine pm (pm (pm ?_));simp only [nf]
  refine pp rfl rfl (pr_bin rfl rfl (by first | exact bin_quo_n (n := 2) (by omega) (by omega))) ?_;simp only [nf]
  refine pp rfl rfl (pr_bin rfl rfl (by first | exact bin_add_n (by omega) | exact bin_add_i (by omega) (by omega))) ?_;simp only [nf]
  refine pp rfl rfl (pr_bin rfl rfl (by first | exact bin_gtr_n  | exact bin_gtr_i)) ?_;simp only [nf]
  refine pm ?_;simp only [nf]
  refine plan_pc_t rfl rfl rfl (fun hb => by have hb' := hb; try simp only [gsl] at hb'; rw [hb]; exact pr_move) ?_
  (try simp only [nf])
  refine plan_pc_t rfl rfl rfl (fun hb => by have hb' := hb; try simp only [gsl] at hb'; rw [hb]; exact pr_move) ?_
  (try simp only [nf])
  refine plan_pc_t rfl rfl rfl (fun hb => by have hb' := hb; try simp only [gsl] at hb'; rw [hb]; exact (pr_bin rfl rfl (by first | exact bin_geq_n  | exact bin_geq_i))) ?_
  (try simp only [nf])
  refine pp rfl rfl (pr_pick_and rfl rfl rfl) ?_;simp only [nf]
  refine pa ?_;simp only [nf]
  refine plan_nil hH ?_
  clear hH
  intro w17 hH
  refine hK16 _ _ ?_
  (try clear hK16 K16)
  refine wp_cond_split rfl (fun hc18 => ?_) (fun hc18 => ?_)
  ·
   (try simp only [cnd, Bool.and_eq_true, Bool.and_eq_false_iff, Bool.or_eq_true, Bool.or_eq_false_iff] at hc18)
   refine wp_seq_k ?_
   intro K19 hK19
   refine wrt [.p 0, .p 1, .p 2, .p 3, .p 4] ?_
   refine pm (pm ?_);simp only [nf]
   refine pp rfl rfl (pr_bin rfl rfl (by first | exact bin_sub_n (by omega) (by omega) | exact bin_sub_i (by omega) (by omega))) ?_;simp only [nf]
   refine pa (pka 0 ?_);simp only [nf]
   refine plan_nil hH ?_
   clear hH
   intro w20 hH
   refine hK19 _ _ ?_
   (try clear hK19 K19)
   refine wp_ret ?_
   (try simp only [Exit.then, Exit.inBlock, ↓reduceIte, Nat.reduceEqDiff])
   refine BP.ret2 rfl rfl rfl ?_
   first | (exact ⟨congrArg (fun n : Nat => Value.tuple #[I64 (n : Nat), I64 (0 : Nat)]) (by unfold wholeN; rw [if_pos (by omega)]), hH.chg⟩) | (exact ⟨congrArg (fun n : Nat => Value.tuple #[I64 (n : Nat), I64 (0 : Nat)]) (by unfold wholeN; rw [if_neg (by omega), if_pos (by omega)]), hH.chg⟩) | (exact ⟨congrArg (fun n : Nat => Value.tuple #[I64 (n : Nat), I64 (0 : Nat)]) (by unfold wholeN; rw [if_neg (by omega), if_neg (by omega)]), hH.chg⟩)
  ·
   (try simp only [cnd, Bool.and_eq_true, Bool.and_eq_false_iff, Bool.or_eq_true, Bool.or_eq_false_iff] at hc18)
   refine wp_skip ?_
   refine hK10 _ _ ?_
   (try clear hK10 K10)
   refine wp_seq_k ?_
   intro K21 hK21
   refine wrt [.p 0, .p 1, .p 2] ?_
   refine pm (pa (pka 0 ?_));simp only [nf]
   refine plan_nil hH ?_
   clear hH
   intro w22 hH
   refine hK21 _ _ ?_
   (try clear hK21 K21)
   refine wp_ret ?_
   (try simp only [Exit.then, Exit.inBlock, ↓reduceIte, Nat.reduceEqDiff])
   refine BP.ret2 rfl rfl rfl ?_
   first | (exact ⟨congrArg (fun n : Nat => Value.tuple #[I64 (n : Nat), I64 (0 : Nat)]) (by unfold wholeN; rw [if_pos (by omega)]), hH.chg⟩) | (exact ⟨congrArg (fun n : Nat => Value.tuple #[I64 (n : Nat), I64 (0 : Nat)]) (by unfold wholeN; rw [if_neg (by omega), if_pos (by omega)]), hH.chg⟩) | (exact ⟨congrArg (fun n : Nat => Value.tuple #[I64 (n : Nat), I64 (0 : Nat)]) (by unfold wholeN; rw [if_neg (by omega), if_neg (by omega)]), hH.chg⟩)
theorem clone_calls (v : Value) (l : List UInt8) (w : World) (hv : Sl w v l) (hne : l ≠ []) (hl : l.length ≤ 140737488355328) : Ret Tryd.prog 30 #[v] w fun v' w' => ∃ o cap cs, v' = own o l.length cap ∧ Chg [] w w' ∧ OwnC o l.length cap 1 cs ((l).map V8) ∧ ∀ b, o = some b → w.heap.size ≤ b ∧ Blk w' b 5 cs := by
 refine Ret.enter Tryd.func30 rfl ?_
 simp only [Tryd.ntmps30, fe, Nat.reduceAdd, Nat.reduceSub]
 have hH := Hp.start [] w
 refine wp_seq_k ?_
 intro K1 hK1
 refine wrt [.p 0] ?_
 refine pa ?_;simp only [nf]
 refine plan_nil hH ?_
 clear hH
 intro w2 hH
 refine hK1 _ _ ?_
 (try clear hK1 K1)
 refine wp_seq_k ?_
 intro K3 hK3
 refine wp_seq_k ?_
 intro K4 hK4
 refine wrt [.p 0, .p 1] ?_
 refine pm ?_;simp only [nf]
 refine pp rfl rfl (pr_bin rfl rfl (bin_eql_Sl (hv.chg hH.chg) hne Tryd.underlying22)) ?_;simp only [nf]
 refine plan_nil hH ?_
 clear hH
 intro w5 hH
 refine hK4 _ _ ?_
 (try clear hK4 K4)
 refine wp_cond_false rfl ?_
 refine wp_skip ?_
 refine hK3 _ _ ?_
 (try clear hK3 K3)
 refine wp_seq_k ?_
 intro K6 hK6
 refine wrt [.x 0, .p 1, .e 2, .p 3] ?_
 refine plan_buildSlice rfl rfl hH Tryd.underlying22 (by rfl) (bs0 ) ?_
 clear hH
 intro b7 w8 hH
 (try simp only [nf, nh, Value.cells, arrB_set] at hH ⊢)
 refine pm ?_;simp only [nf]
 refine plan_append 0 rfl rfl hH rfl (OwnC.of_bytes rfl) (fun w' hH => ((hv.chg hH.chg)).src) rfl rfl Tryd.underlying22 Tryd.underlying22 (.inl ⟨_, rfl⟩) sz5 bz5 ze5 rfl (by first | omega | (simp <;> omega)) (by first | omega | (simp <;> omega)) ?_
 clear hH
 intro o9 cap10 cs11 w12 hO13 hH
 (try simp only [nf] at hH ⊢)
 (try simp only [nf, nh, Value.cells, arrB_set] at hH ⊢)
 try rw [← List.map_append] at hO13
 (try simp only [Nat.zero_add, List.nil_append, List.length_nil] at hO13 ⊢)
 refine pa ?_;simp only [nf]
 refine plan_nil hH ?_
 clear hH
 intro w14 hH
 refine hK6 _ _ ?_
 (try clear hK6 K6)
 refine wp_ret ?_
 (try simp only [Exit.then, Exit.inBlock, ↓reduceIte, Nat.reduceEqDiff])
 refine BP.ret1 rfl rfl ?_
 exact ⟨_, _, _, rfl, hH.chg, (by assumption), hH.owned 0 rfl⟩
def hideL (l ml : List UInt8) (p : Nat) : Nat → List UInt8
  | 0 => l.set 0 (l.getD 0 0 ^^^ ml.getD 0 0)
  | i + 1 => (hideL l ml p i).set (p + i) ((hideL l ml p i).getD (p + i) 0 ^^^ ml.getD (1 + i) 0)
@[simp] theorem hideL_len (l ml : List UInt8) (p n : Nat) : (hideL l ml p n).length = l.length := by
  induction n with
  | zero => simp [hideL]
  | succ n ih => simp [hideL, ih]
def sampL (l : List UInt8) (p : Nat) : List UInt8 := (l.drop (p + 4)).take 16
def maskR (K : List UInt8) (l : List UInt8) (p : Nat) : Nat → UInt8 := aesR (kexp fun i => K.getD i 0) (fun i => (sampL l p).getD i 0) 10
def maskF (K l : List UInt8) (p : Nat) : Nat → UInt8 := upd (maskR K l p) 0 (if l.getD 0 0 &&& 128 != 0 then maskR K l p 0 &&& 15 else maskR K l p 0 &&& 31)
def maskL (K l : List UInt8) (p : Nat) : List UInt8 := (List.range 16).map (maskF K l p)
@[simp] theorem maskL_len (K l : List UInt8) (p : Nat) : (maskL K l p).length = 16 := by simp [maskL]
theorem sampL_len (l : List UInt8) (p : Nat) (h : p + 20 ≤ l.length) : (sampL l p).length = 16 := by unfold sampL; rw [List.length_take, List.length_drop]; omega
theorem hide_calls (b cap m : Nat) (cs : Array Value) (l ml : List UInt8) (mv : Value) (p n : Nat) (w : World) (hlm : l.length = m) (hb : Blk w b 5 cs) (hO : OwnC (some b) m cap 1 cs (l.map V8)) (hm : ∀ w', Chg [b] w w' → Sl w' mv ml) (h1 : 1 ≤ l.length) (h2 : p + n ≤ l.length) (h3 : n + 1 ≤ ml.length) (h4 : l.length < 9223372036854775808) : Ret Tryd.prog 31 #[own (some b) m cap, mv, I64 p, I64 n] w fun v w' => v = .tuple #[] ∧ Chg [b] w w' ∧ ∃ cs', Blk w' b 5 cs' ∧ OwnC (some b) m cap 1 cs' ((hideL l ml p n).map V8) := by
 subst hlm
 refine Ret.enter Tryd.func31 rfl ?_
 simp only [Tryd.ntmps31, fe, Nat.reduceAdd, Nat.reduceSub]
 have hH := Hp.start1 hb
 refine wp_seq_k ?_
 intro K1 hK1
 refine wrp [.p 0, .p 1, .p 3, .p 4, .q 2, .q 5, .p 6, .p 7, .e 8] ?_
 refine pm ?_;simp only [nf]
 refine pp rfl rfl (pr_idx_Sl (i := 0) (OwnC.sl hH 0 rfl hO) rfl rfl Tryd.underlying22 sz5 (by first | omega | ((try simp only [hideL_len]); omega))) ?_;simp only [nf]
 refine pm ?_;simp only [nf]
 refine pp rfl rfl (pr_idx_Sl (i := 0) (hm _ hH.chg) rfl rfl Tryd.underlying22 sz5 (by first | omega | ((try simp only [hideL_len]); omega))) ?_;simp only [nf]
 refine pq rfl rfl (qr_load1 rfl Tryd.underlying5 rfl (Sl.cell (i := 0) (OwnC.sl hH 0 rfl hO) (by first | omega | ((try simp only [hideL_len]); omega)))) ?_;simp only [nf]
 refine pq rfl rfl (qr_load1 rfl Tryd.underlying5 rfl (Sl.cell (i := 0) (hm _ hH.chg) (by first | omega | ((try simp only [hideL_len]); omega)))) ?_;simp only [nf]
 refine pp rfl rfl (pr_bin rfl rfl (bin_xor_u8 _ _)) ?_;simp only [nf]
 refine pp rfl rfl (pr_idx_Sl (i := 0) (OwnC.sl hH 0 rfl hO) rfl rfl Tryd.underlying22 sz5 (by first | omega | ((try simp only [hideL_len]); omega))) ?_;simp only [nf]
 refine plan_storeO 0 (j := 0) rfl rfl hH rfl rfl hO rfl sz5 (by first | omega | ((try simp only [hideL_len]); omega)) ?_
 clear hH
 intro cs3 w2 hO4 hH
 (try simp only [nf, nh, Value.cells, arrB_set] at hH ⊢)
 refine plan_nil hH ?_
 clear hH
 intro w5 hH
 refine hK1 _ _ ?_
 (try clear hK1 K1)
 refine wp_seq_k ?_
 intro K6 hK6
 refine wrt [.p 0, .p 1] ?_
 refine pm (pk 0 ?_);simp only [nf]
 refine plan_nil hH ?_
 clear hH
 intro w7 hH
 refine hK6 _ _ ?_
 (try clear hK6 K6)
 refine wp_block ?_
 refine wp_loopT [18] [8, 19, 20, 21, 22, 23, 24, 25, 26, 27, 28, 29, 30, 31, 32, 33, 34] (fun (n8 : Nat) (vs : List Value) (w' : World) => ∃ (i : Nat) (cs' : Array Value), vs = [I64 (i : Nat)] ∧ Hp [b] w w' [(some b, 5, cs')] ∧ n8 = n - i ∧ i ≤ n ∧ OwnC (some b) l.length cap 1 cs' ((hideL l ml p i).map V8)) (n - 0) (by kernel_rfl) ?_ ?_
 ·
  simp only [ga]
  refine ⟨0, cs3, rfl, ?_, rfl, ?_, ?_⟩
  ·
   exact hH
  · first | omega | (omega)
  · first | omega | (exact hO4)
 clear hH
 intro n8 vs9 w10 hR11 d0
 obtain ⟨i, cs', rfl, hH, hn12, hf13, hO'⟩ := hR11
 simp only [putAll, putD, List.set_cons_zero, List.set_cons_succ, Nat.zero_add, Nat.reduceAdd]
 have hhl := hideL_len l ml p i
 refine wp_seq_k ?_
 intro K14 hK14
 refine wrt [.p 0] ?_
 refine pp rfl rfl (pr_bin rfl rfl (by first | exact bin_lss_n  | exact bin_lss_i)) ?_;simp only [nf]
 refine plan_nil hH ?_
 clear hH
 intro w15 hH
 refine hK14 _ _ ?_
 (try clear hK14 K14)
 refine wp_seq_k ?_
 intro K16 hK16
 refine wp_cond_split rfl (fun hc17 => ?_) (fun hc17 => ?_)
 ·
  (try simp only [cnd] at hc17)
  refine wp_skip ?_
  refine hK16 _ _ ?_
  (try clear hK16 K16)
  refine wp_seq_k ?_
  intro K18 hK18
  refine wp_block ?_
  refine wp_seq_k ?_
  intro K19 hK19
  refine wrt [.p 0, .p 1] ?_
  refine pm (pa ?_);simp only [nf]
  refine plan_nil hH ?_
  clear hH
  intro w20 hH
  refine hK19 _ _ ?_
  (try clear hK19 K19)
  refine wrp [.p 0, .p 1, .p 2, .p 3, .p 4, .p 6, .p 7, .p 8, .p 9, .q 5, .q 10, .p 11, .p 12, .e 13] ?_
  refine pm (pm (pm ?_));simp only [nf]
  refine pp rfl rfl (pr_bin rfl rfl (by first | exact bin_add_n (by first | omega | ((try simp only [hideL_len]); omega)) | exact bin_add_i (by first | omega | ((try simp only [hideL_len]); omega)) (by first | omega | ((try simp only [hideL_len]); omega)))) ?_;simp only [nf]
  refine pp rfl rfl (pr_idx_Sl (OwnC.sl hH 0 rfl hO') rfl rfl Tryd.underlying22 sz5 (by first | omega | ((try simp only [hideL_len]); omega))) ?_;simp only [nf]
  refine pm (pm ?_);simp only [nf]
  refine pp rfl rfl (pr_bin rfl rfl (by first | exact bin_add_n (m := 1) (by first | omega | ((try simp only [hideL_len]); omega)) | exact bin_add_i (by first | omega | ((try simp only [hideL_len]); omega)) (by first | omega | ((try simp only [hideL_len]); omega)))) ?_;simp only [nf]
  refine pp rfl rfl (pr_idx_Sl (hm _ hH.chg) rfl rfl Tryd.underlying22 sz5 (by first | omega | ((try simp only [hideL_len]); omega))) ?_;simp only [nf]
  refine pq rfl rfl (qr_load1 rfl Tryd.underlying5 rfl (Sl.cell (OwnC.sl hH 0 rfl hO') (by first | omega | ((try simp only [hideL_len]); omega)))) ?_;simp only [nf]
  refine pq rfl rfl (qr_load1 rfl Tryd.underlying5 rfl (Sl.cell (hm _ hH.chg) (by first | omega | ((try simp only [hideL_len]); omega)))) ?_;simp only [nf]
  refine pp rfl rfl (pr_bin rfl rfl (bin_xor_u8 _ _)) ?_;simp only [nf]
  refine pp rfl rfl (pr_idx_Sl (OwnC.sl hH 0 rfl hO') rfl rfl Tryd.underlying22 sz5 (by first | omega | ((try simp only [hideL_len]); omega))) ?_;simp only [nf]
  refine plan_storeO 0 rfl rfl hH rfl rfl hO' rfl sz5 (by first | omega | ((try simp only [hideL_len]); omega)) ?_
  clear hH
  intro cs22 w21 hO23 hH
  (try simp only [nf, nh, Value.cells, arrB_set] at hH ⊢)
  refine plan_nil hH ?_
  clear hH
  intro w24 hH
  refine hK18 _ _ ?_
  (try clear hK18 K18)
  refine wrt [.p 0, .p 1] ?_
  refine pp rfl rfl (pr_bin rfl rfl (by first | exact bin_add_n (n := 1) (by first | omega | ((try simp only [hideL_len]); omega)) | exact bin_add_i (by first | omega | ((try simp only [hideL_len]); omega)) (by first | omega | ((try simp only [hideL_len]); omega)))) ?_;simp only [nf]
  refine pm ?_;simp only [nf]
  refine plan_nil hH ?_
  clear hH
  intro w25 hH
  (try simp only [Exit.then, Exit.inBlock, ↓reduceIte, Nat.reduceEqDiff])
  refine ⟨n - (i + 1), ?_, _, rfl, by kernel_rfl, ?_⟩
  · first | omega | (omega)
  simp only [ga]
  refine ⟨i + 1, cs22, rfl, ?_, rfl, ?_, ?_⟩
  ·
   exact hH
  · first | omega | (omega)
  · first | omega | (unfold hideL; exact hO23)
 ·
  (try simp only [cnd] at hc17)
  refine wp_exit ?_
  (try simp only [Exit.then, Exit.inBlock, ↓reduceIte, Nat.reduceEqDiff])
  refine BP.normal ?_
  refine BP.ret0 rfl rfl ?_
  obtain rfl : i = n := by omega
  exact ⟨rfl, hH.chg, _, hH.blk 0 rfl, hO'⟩
theorem mask_calls (a b c : ByteArray) (v : Value) (l : List UInt8) (p : Nat) (w : World) (hv : Sl w v l) (hc : c.size = 16) (hp : p + 20 ≤ l.length) (hl : l.length < 9223372036854775808) : Ret Tryd.prog 32 #[.agg #[.string a, .string b, .string c], v, I64 p] w fun v' w' => ∃ bm, v' = .slice (some ⟨bm, 0, none⟩) 16 16 ∧ Chg [] w w' ∧ w.heap.size ≤ bm ∧ Blk w' bm 87 (arr8 16 (maskF c.data.toList l p)) := by
 refine Ret.enter Tryd.func32 rfl ?_
 simp only [Tryd.ntmps32, fe, Nat.reduceAdd, Nat.reduceSub]
 have hH := Hp.start [] w
 refine wp_seq_k ?_
 intro K1 hK1
 refine wrt [.x 0, .p 1] ?_
 refine plan_box rfl rfl hH rfl ?_
 clear hH
 intro b2 w3 hH
 (try simp only [nf, nh, Value.cells, arrB_set] at hH ⊢)
 refine pa ?_;simp only [nf]
 refine plan_nil hH ?_
 clear hH
 intro w4 hH
 refine hK1 _ _ ?_
 (try clear hK1 K1)
 refine wp_seq_k ?_
 intro K5 hK5
 refine wrt [.p 0, .q 1, .x 2, .x 3, .p 4, .p 5, .p 6, .p 7, .p 8] ?_
 refine pp rfl rfl (pr_fieldAddr 2 rfl Tryd.underlying37 rfl rfl sz9) ?_;simp only [nf]
 refine pq rfl rfl (qr_load1 rfl Tryd.underlying9 rfl ((hH.blk 0 rfl).cell rfl)) ?_;simp only [nf]
 refine plan_s2b rfl rfl hH rfl Tryd.underlying9 Tryd.underlying22 Tryd.underlying5 ?_
 clear hH
 intro b6 cap7 cs8 w9 hO10 hH
 (try simp only [nf] at hH ⊢)
 (try simp only [nf, nh, Value.cells, arrB_set] at hH ⊢)
 refine plan_callx rfl rfl hH cf42 (fun w' hH => new_calls _ _ w' (OwnC.sl hH 1 rfl hO10) (by simpa using hc)) rfl (fun _ _ _ h => h.choose_spec.2.1) ?_
 clear hH
 intro w11 v12 w13 hH hp14
 obtain ⟨b15, rfl, hg, hfr, hbk⟩ := hp14
 replace hH := hH.callnew hg hbk hfr
 clear hg hfr hbk
 (try simp only [nf, nh, Value.cells, arrB_set] at hH ⊢)
 (try simp only [nf])
 refine pm ?_;simp only [nf]
 refine pp rfl rfl (pr_extract rfl rfl) ?_;simp only [nf]
 refine pp rfl rfl (pr_extract rfl rfl) ?_;simp only [nf]
 refine pa (pa ?_);simp only [nf]
 refine plan_nil hH ?_
 clear hH
 intro w16 hH
 refine hK5 _ _ ?_
 (try clear hK5 K5)
 refine wp_seq_k ?_
 intro K17 hK17
 refine wrt [.p 0, .p 1, .p 2, .p 3, .p 4, .p 5, .p 6, .p 7, .x 8, .p 9, .p 10, .p 11, .p 12, .p 13] ?_
 refine pm (pm (pm ?_));simp only [nf]
 refine pp rfl rfl (pr_bin rfl rfl (by first | exact bin_add_n (n := 4) (by omega) | exact bin_add_i (by omega) (by omega))) ?_;simp only [nf]
 refine pm ?_;simp only [nf]
 refine pp rfl rfl (pr_bin rfl rfl (by first | exact bin_add_n (n := 4) (by omega) | exact bin_add_i (by omega) (by omega))) ?_;simp only [nf]
 refine pp rfl rfl (pr_bin rfl rfl (by first | exact bin_add_n (n := 16) (by omega) | exact bin_add_i (by omega) (by omega))) ?_;simp only [nf]
 refine pp rfl rfl (pr_slice_Sl_lh (hv.chg hH.chg) rfl rfl rfl Tryd.underlying22 sz5 (by omega) (by omega)) ?_;simp only [nf]
 refine plan_callx rfl rfl hH cf43 (fun w' hH => block_calls _ _ _ _ w' (hH.blk 2 rfl) (Sl.cut (hv.chg hH.chg) (by omega) (by omega)) (by simpa [sampL] using sampL_len l p hp)) rfl (fun _ _ _ h => h.choose_spec.2.1) ?_
 clear hH
 intro w18 v19 w20 hH hp21
 obtain ⟨b22, rfl, hg, hfr, hbk⟩ := hp21
 replace hH := hH.callnew hg hbk hfr
 clear hg hfr hbk
 (try simp only [nf, nh, Value.cells, arrB_set] at hH ⊢)
 (try simp only [nf])
 refine pm ?_;simp only [nf]
 refine pp rfl rfl (pr_extract rfl rfl) ?_;simp only [nf]
 refine pp rfl rfl (pr_extract rfl rfl) ?_;simp only [nf]
 refine pa (pa ?_);simp only [nf]
 refine plan_nil hH ?_
 clear hH
 intro w23 hH
 simp only [Nat.add_sub_cancel_left] at hH
 refine hK17 _ _ ?_
 (try clear hK17 K17)
 refine wp_seq_k ?_
 intro K24 hK24
 refine wp_seq_k ?_
 intro K25 hK25
 refine wrt [.p 0, .p 1, .q 2, .p 3, .p 4] ?_
 refine pm ?_;simp only [nf]
 refine pp rfl rfl (pr_idx_Sl (i := 0) (hv.chg hH.chg) rfl rfl Tryd.underlying22 sz5 (by omega)) ?_;simp only [nf]
 refine pq rfl rfl (qr_load1 rfl Tryd.underlying5 rfl (Sl.cell (i := 0) (hv.chg hH.chg) (by omega))) ?_;simp only [nf]
 refine pp rfl rfl (pr_bin rfl rfl (bin_and_u8 _ 128)) ?_;simp only [nf]
 refine pp rfl rfl (pr_bin rfl rfl (bin_neq_u8 _ 0)) ?_;simp only [nf]
 refine plan_nil hH ?_
 clear hH
 intro w26 hH
 refine hK25 _ _ ?_
 (try clear hK25 K25)
 refine wp_cond_split rfl (fun hc27 => ?_) (fun hc27 => ?_)
 ·
  (try simp only [cnd] at hc27)
  have hq := hc27
  refine wrt [.p 0, .p 1, .q 2, .p 3, .p 4, .e 5] ?_
  refine pm ?_;simp only [nf]
  refine pp rfl rfl (pr_idxS1 (i := 0) rfl rfl Tryd.underlying22 sz5 (by omega)) ?_;simp only [nf]
  refine pq rfl rfl (qr_load1 rfl Tryd.underlying5 rfl ((hH.blk 3 rfl).cell (arr8_get (by omega)))) ?_;simp only [nf]
  refine pp rfl rfl (pr_bin rfl rfl (bin_and_u8 _ 15)) ?_;simp only [nf]
  refine pp rfl rfl (pr_idxS1 (i := 0) rfl rfl Tryd.underlying22 sz5 (by omega)) ?_;simp only [nf]
  refine plan_store1 3 rfl rfl hH rfl rfl rfl rfl sz5 (by simp <;> omega) ?_
  clear hH
  intro w28 hH
  (try simp only [nf, nh, Value.cells, arrB_set] at hH ⊢)
  refine plan_nil hH ?_
  clear hH
  intro w29 hH
  refine hK24 _ _ ?_
  (try clear hK24 K24)
  refine wp_seq_k ?_
  intro K30 hK30
  refine wrt [.p 0, .p 1] ?_
  refine pm (pa ?_);simp only [nf]
  refine plan_nil hH ?_
  clear hH
  intro w31 hH
  refine hK30 _ _ ?_
  (try clear hK30 K30)
  refine wp_ret ?_
  (try simp only [Exit.then, Exit.inBlock, ↓reduceIte, Nat.reduceEqDiff])
  refine BP.ret1 rfl rfl ?_
  exact ⟨_, rfl, hH.chg, (hH.mine 3 rfl).resolve_right (by simp), (hH.say 3 rfl (arr8_congr fun i _ => by unfold maskF; rw [if_pos (bne_iff_ne.2 hq)]; rfl)).blk 3 rfl⟩
 ·
  (try simp only [cnd] at hc27)
  have hq := hc27
  refine wrt [.p 0, .p 1, .q 2, .p 3, .p 4, .e 5] ?_
  refine pm ?_;simp only [nf]
  refine pp rfl rfl (pr_idxS1 (i := 0) rfl rfl Tryd.underlying22 sz5 (by omega)) ?_;simp only [nf]
  refine pq rfl rfl (qr_load1 rfl Tryd.underlying5 rfl ((hH.blk 3 rfl).cell (arr8_get (by omega)))) ?_;simp only [nf]
  refine pp rfl rfl (pr_bin rfl rfl (bin_and_u8 _ 31)) ?_;simp only [nf]
  refine pp rfl rfl (pr_idxS1 (i := 0) rfl rfl Tryd.underlying22 sz5 (by omega)) ?_;simp only [nf]
  refine plan_store1 3 rfl rfl hH rfl rfl rfl rfl sz5 (by simp <;> omega) ?_
  clear hH
  intro w32 hH
  (try simp only [nf, nh, Value.cells, arrB_set] at hH ⊢)
  refine plan_nil hH ?_
  clear hH
  intro w33 hH
  refine hK24 _ _ ?_
  (try clear hK24 K24)
  refine wp_seq_k ?_
  intro K34 hK34
  refine wrt [.p 0, .p 1] ?_
  refine pm (pa ?_);simp only [nf]
  refine plan_nil hH ?_
  clear hH
  intro w35 hH
  refine hK34 _ _ ?_
  (try clear hK34 K34)
  refine wp_ret ?_
  (try simp only [Exit.then, Exit.inBlock, ↓reduceIte, Nat.reduceEqDiff])
  refine BP.ret1 rfl rfl ?_
  exact ⟨_, rfl, hH.chg, (hH.mine 3 rfl).resolve_right (by simp), (hH.say 3 rfl (arr8_congr fun i _ => by unfold maskF; rw [if_neg (fun e => bne_iff_ne.1 e hq)]; rfl)).blk 3 rfl⟩
theorem u8_all (P : UInt8 → Bool) (h : ((List.range 256).all fun i => P (UInt8.ofNat i)) = true) (x : UInt8) : P x = true := by
  have := List.all_eq_true.1 h x.toNat (List.mem_range.2 x.toNat_lt)
  rwa [UInt8.ofNat_toNat] at this
theorem u8_hi (x : UInt8) (h : 128 ≤ x) : (x &&& 128 != 0) = true := by
  have := u8_all (fun x => !decide (128 ≤ x) || (x &&& 128 != 0)) (by decide) x
  simpa [h] using this
theorem u8_lo (x : UInt8) (h : ¬ 128 ≤ x) : ¬ (x &&& 128 != 0) = true := by
  have := u8_all (fun x => decide (128 ≤ x) || (x &&& 128 == 0)) (by decide) x
  simpa [h] using this
theorem u8_mod16 (x : UInt8) : x % 16 = x &&& 15 := eq_of_beq (u8_all (fun x => x % 16 == x &&& 15) (by decide) x)
theorem u8_mod32 (x : UInt8) : x % 32 = x &&& 31 := eq_of_beq (u8_all (fun x => x % 32 == x &&& 31) (by decide) x)
theorem mask_head (K l : List UInt8) (p : Nat) : (maskL K l p).getD 0 0 = if l.getD 0 0 &&& 128 != 0 then maskR K l p 0 &&& 15 else maskR K l p 0 &&& 31 := by
  unfold maskL
  rw [cut16 _ (by decide)]
  unfold maskF; rw [upd_same]
theorem mask_tail (K l : List UInt8) (p i : Nat) (hi : 1 + i < 16) : (maskL K l p).getD (1 + i) 0 = maskR K l p (1 + i) := by
  unfold maskL
  rw [cut16 _ hi]
  unfold maskF; rw [upd_other _ _ _ (by omega)]
theorem samp_at (s : ByteArray) (p : Nat) (hp : p + 20 ≤ s.size) (i : Nat) (hi : i < 16) : (s.extract (p + 4) (p + 20)).data.toList.getD i 0 = (sampL s.data.toList p).getD i 0 := by
  rw [ByteArray.data_extract, Array.toList_extract, List.extract_eq_take_drop]
  unfold sampL
  rw [show p + 20 - (p + 4) = 16 by omega]
theorem masked_calls (a b c s : ByteArray) (p n : Nat) (w : World) (hc : c.size = 16) (hp : p + 20 ≤ s.size) (hn : n ≤ 15) (hs : s.size < 9223372036854775808) : Ret Tryd.prog 26 #[.agg #[.string a, .string b, .string c], .string s, I64 p, I64 n] w fun v w' => v = .string ⟨(hideL s.data.toList (maskL c.data.toList s.data.toList p) p n).toArray⟩ ∧ Chg [] w w' := by
 have hsl : s.data.toList.length = s.size := by simp
 refine Ret.enter Tryd.func26 rfl ?_
 simp only [Tryd.ntmps26, fe, Nat.reduceAdd, Nat.reduceSub]
 have hH := Hp.start [] w
 refine wp_seq_k ?_
 intro K1 hK1
 refine wrt [.x 0, .p 1] ?_
 refine plan_box rfl rfl hH rfl ?_
 clear hH
 intro b2 w3 hH
 (try simp only [nf, nh, Value.cells, arrB_set] at hH ⊢)
 refine pa ?_;simp only [nf]
 refine plan_nil hH ?_
 clear hH
 intro w4 hH
 refine hK1 _ _ ?_
 (try clear hK1 K1)
 refine wp_seq_k ?_
 intro K5 hK5
 refine wrp [.p 0, .p 3, .p 4, .p 5, .p 6, .p 7, .p 8, .q 1, .x 2, .q 9, .p 10] ?_
 refine pp rfl rfl (pr_fieldAddr 2 rfl Tryd.underlying30 rfl rfl sz9) ?_;simp only [nf]
 refine pm (pm ?_);simp only [nf]
 refine pp rfl rfl (pr_bin rfl rfl (by first | exact bin_add_n (n := 4) (by first | omega | (first | (simp; done) | (simp; omega) | (rw [bsz]; simp <;> omega))) | exact bin_add_i (by first | omega | (first | (simp; done) | (simp; omega) | (rw [bsz]; simp <;> omega))) (by first | omega | (first | (simp; done) | (simp; omega) | (rw [bsz]; simp <;> omega))))) ?_;simp only [nf]
 refine pm ?_;simp only [nf]
 refine pp rfl rfl (pr_bin rfl rfl (by first | exact bin_add_n (n := 20) (by first | omega | (first | (simp; done) | (simp; omega) | (rw [bsz]; simp <;> omega))) | exact bin_add_i (by first | omega | (first | (simp; done) | (simp; omega) | (rw [bsz]; simp <;> omega))) (by first | omega | (first | (simp; done) | (simp; omega) | (rw [bsz]; simp <;> omega))))) ?_;simp only [nf]
 refine pp rfl rfl (pr_slice_str_lh rfl rfl rfl Tryd.underlying9 (by first | omega | (first | (simp; done) | (simp; omega) | (rw [bsz]; simp <;> omega))) (by first | omega | (first | (simp; done) | (simp; omega) | (rw [bsz]; simp <;> omega)))) ?_;simp only [nf]
 refine pq rfl rfl (qr_load1 rfl Tryd.underlying9 rfl ((hH.blk 0 rfl).cell rfl)) ?_;simp only [nf]
 refine plan_callx rfl rfl hH cf39 (fun w' hH => ready_calls _ (fun i => c.data.toList.getD i 0) rfl w' (by simpa using hc)) rfl (fun _ _ _ h => h.choose_spec.2.1) ?_
 clear hH
 intro w6 v7 w8 hH hp9
 obtain ⟨b10, rfl, hg, hfr, hbk⟩ := hp9
 replace hH := hH.callnew hg hbk hfr
 clear hg hfr hbk
 (try simp only [nf, nh, Value.cells, arrB_set] at hH ⊢)
 (try simp only [nf])
 refine pq rfl rfl (qr_call cf48 (fun w' hw => refblock_calls _ (fun i => c.data.toList.getD i 0) _ (fun i => (sampL s.data.toList p).getD i 0) (samp_at s p hp) (by rw [ByteArray.size_extract]; omega) w' (hw.nil_blk (hH.blk 1 rfl))) rfl) ?_;simp only [nf]
 refine pa ?_;simp only [nf]
 refine plan_nil hH ?_
 clear hH
 intro w11 hH
 refine hK5 _ _ ?_
 (try clear hK5 K5)
 refine wp_seq_k ?_
 intro K12 hK12
 refine wrt [.p 0, .x 1, .p 2] ?_
 refine pm ?_;simp only [nf]
 refine plan_s2b rfl rfl hH rfl Tryd.underlying9 Tryd.underlying22 Tryd.underlying5 ?_
 clear hH
 intro b13 cap14 cs15 w16 hO17 hH
 (try simp only [nf] at hH ⊢)
 (try simp only [nf, nh, Value.cells, arrB_set] at hH ⊢)
 refine pa ?_;simp only [nf]
 refine plan_nil hH ?_
 clear hH
 intro w18 hH
 refine hK12 _ _ ?_
 (try clear hK12 K12)
 refine wp_seq_k ?_
 intro K19 hK19
 refine wp_seq_k ?_
 intro K20 hK20
 refine wrt [.p 0, .p 1, .p 2] ?_
 refine pm ?_;simp only [nf]
 refine pp rfl rfl (pr_index_strD (i := 0) rfl rfl Tryd.underlying9 (by first | omega | (first | (simp; done) | (simp; omega) | (rw [bsz]; simp <;> omega)))) ?_;simp only [nf]
 refine pp rfl rfl (pr_bin rfl rfl (bin_geq_u8 _ 128)) ?_;simp only [nf]
 refine plan_nil hH ?_
 clear hH
 intro w21 hH
 refine hK20 _ _ ?_
 (try clear hK20 K20)
 refine wp_cond_split rfl (fun hc22 => ?_) (fun hc22 => ?_)
 ·
  (try simp only [cnd] at hc22)
  have hq := hc22
  refine wrp [.p 0, .p 1, .p 2, .p 4, .p 5, .p 6, .q 3, .p 7, .p 8, .e 9] ?_
  refine pm (pm ?_);simp only [nf]
  refine pp rfl rfl (pr_idx_Sl (i := 0) (OwnC.sl hH 2 rfl hO17) rfl rfl Tryd.underlying22 sz5 (by first | omega | (first | (simp; done) | (simp; omega) | (rw [bsz]; simp <;> omega)))) ?_;simp only [nf]
  refine pm ?_;simp only [nf]
  refine pp rfl rfl (pr_index_strD (i := 0) rfl rfl Tryd.underlying9 (by first | omega | (first | (simp; done) | (simp; omega) | (rw [bsz]; simp <;> omega)))) ?_;simp only [nf]
  refine pp rfl rfl (pr_bin rfl rfl (bin_rem_u8 _ 16 (by decide))) ?_;simp only [nf]
  refine pq rfl rfl (qr_load1 rfl Tryd.underlying5 rfl (Sl.cell (i := 0) (OwnC.sl hH 2 rfl hO17) (by first | omega | (first | (simp; done) | (simp; omega) | (rw [bsz]; simp <;> omega))))) ?_;simp only [nf]
  refine pp rfl rfl (pr_bin rfl rfl (bin_xor_u8 _ _)) ?_;simp only [nf]
  refine pp rfl rfl (pr_idx_Sl (i := 0) (OwnC.sl hH 2 rfl hO17) rfl rfl Tryd.underlying22 sz5 (by first | omega | (first | (simp; done) | (simp; omega) | (rw [bsz]; simp <;> omega)))) ?_;simp only [nf]
  refine plan_storeO 2 (j := 0) rfl rfl hH rfl rfl hO17 rfl sz5 (by first | omega | (first | (simp; done) | (simp; omega) | (rw [bsz]; simp <;> omega))) ?_
  clear hH
  intro cs24 w23 hO25 hH
  (try simp only [nf, nh, Value.cells, arrB_set] at hH ⊢)
  refine plan_nil hH ?_
  clear hH
  intro w26 hH
  refine hK19 _ _ ?_
  (try clear hK19 K19)
  refine wp_seq_k ?_
  intro K27 hK27
  refine wp_seq_k ?_
  intro K28 hK28
  refine wrt [.p 0] ?_
  refine pka 0 ?_;simp only [nf]
  refine plan_nil hH ?_
  clear hH
  intro w29 hH
  refine hK28 _ _ ?_
  (try clear hK28 K28)
  refine wp_block ?_
  obtain ⟨kc30, hkc31, hN⟩ := hH.name 0 rfl
  replace hH := hN; clear hN; simp only [List.set_cons_zero, List.set_cons_succ] at hH
  obtain ⟨kc32, hkc33, hN⟩ := hH.name 1 rfl
  replace hH := hN; clear hN; simp only [List.set_cons_zero, List.set_cons_succ] at hH
  refine wp_loopT [11] [45, 46, 47, 48, 49, 50, 51, 52, 53, 54, 55, 56, 57, 58, 59, 60, 61, 62, 63, 64, 65] (fun (n34 : Nat) (vs : List Value) (w' : World) => ∃ (i : Nat) (cs' : Array Value), vs = [I64 (i : Nat)] ∧ Hp [] w w' [(some b2, 30, kc30), (some b10, 103, kc32), (some b13, 5, cs')] ∧ n34 = n - i ∧ i ≤ n ∧ OwnC (some b13) s.size cap14 1 cs' ((hideL s.data.toList (maskL c.data.toList s.data.toList p) p i).map V8)) (n - 0) (by kernel_rfl) ?_ ?_
  ·
   simp only [ga]
   refine ⟨0, cs24, rfl, ?_, rfl, ?_, ?_⟩
   ·
    exact hH
   · first | omega | (omega)
   · first | omega | (unfold hideL; rw [mask_head]; first | (rw [if_pos (u8_hi _ hq), ← u8_mod16]; exact hO25) | (rw [if_neg (u8_lo _ hq), ← u8_mod32]; exact hO25))
  clear hH
  intro n34 vs35 w36 hR37 d0
  obtain ⟨i, cs', rfl, hH, hn38, hf39, hO'⟩ := hR37
  simp only [putAll, putD, List.set_cons_zero, List.set_cons_succ, Nat.zero_add, Nat.reduceAdd]
  have hhl := hideL_len s.data.toList (maskL c.data.toList s.data.toList p) p i
  subst hkc31 hkc33
  refine wp_seq_k ?_
  intro K40 hK40
  refine wp_seq_k ?_
  intro K41 hK41
  refine wrt [.p 0, .p 1, .p 2] ?_
  refine pm (pm ?_);simp only [nf]
  refine pp rfl rfl (pr_bin rfl rfl (by first | exact bin_lss_n  | exact bin_lss_i)) ?_;simp only [nf]
  refine plan_nil hH ?_
  clear hH
  intro w42 hH
  refine hK41 _ _ ?_
  (try clear hK41 K41)
  refine wp_cond_split rfl (fun hc43 => ?_) (fun hc43 => ?_)
  ·
   (try simp only [cnd] at hc43)
   refine wp_skip ?_
   refine hK40 _ _ ?_
   (try clear hK40 K40)
   refine wp_seq_k ?_
   intro K44 hK44
   refine wp_block ?_
   refine wrp [.p 0, .p 1, .p 2, .p 3, .p 4, .p 5, .p 6, .p 7, .p 8, .p 10, .p 11, .p 12, .p 13, .q 9, .p 14, .p 15, .e 16] ?_
   refine pm (pm (pm ?_));simp only [nf]
   refine pp rfl rfl (pr_bin rfl rfl (by first | exact bin_add_n (by first | omega | (first | (simp; done) | (simp; omega) | (rw [bsz]; simp <;> omega))) | exact bin_add_i (by first | omega | (first | (simp; done) | (simp; omega) | (rw [bsz]; simp <;> omega))) (by first | omega | (first | (simp; done) | (simp; omega) | (rw [bsz]; simp <;> omega))))) ?_;simp only [nf]
   refine pm (pm (pm ?_));simp only [nf]
   refine pp rfl rfl (pr_bin rfl rfl (by first | exact bin_add_n (by first | omega | (first | (simp; done) | (simp; omega) | (rw [bsz]; simp <;> omega))) | exact bin_add_i (by first | omega | (first | (simp; done) | (simp; omega) | (rw [bsz]; simp <;> omega))) (by first | omega | (first | (simp; done) | (simp; omega) | (rw [bsz]; simp <;> omega))))) ?_;simp only [nf]
   refine pp rfl rfl (pr_idx_Sl (OwnC.sl hH 2 rfl hO') rfl rfl Tryd.underlying22 sz5 (by first | omega | (first | (simp; done) | (simp; omega) | (rw [bsz]; simp <;> omega)))) ?_;simp only [nf]
   refine pm (pm ?_);simp only [nf]
   refine pp rfl rfl (pr_bin rfl rfl (by first | exact bin_add_n (m := 1) (by first | omega | (first | (simp; done) | (simp; omega) | (rw [bsz]; simp <;> omega))) | exact bin_add_i (by first | omega | (first | (simp; done) | (simp; omega) | (rw [bsz]; simp <;> omega))) (by first | omega | (first | (simp; done) | (simp; omega) | (rw [bsz]; simp <;> omega))))) ?_;simp only [nf]
   refine pp rfl rfl (pr_index_strD rfl rfl Tryd.underlying9 (by first | omega | (first | (simp; done) | (simp; omega) | (rw [bsz]; simp <;> omega)))) ?_;simp only [nf]
   refine pq rfl rfl (qr_load1 rfl Tryd.underlying5 rfl (Sl.cell (OwnC.sl hH 2 rfl hO') (by first | omega | (first | (simp; done) | (simp; omega) | (rw [bsz]; simp <;> omega))))) ?_;simp only [nf]
   refine pp rfl rfl (pr_bin rfl rfl (bin_xor_u8 _ _)) ?_;simp only [nf]
   refine pp rfl rfl (pr_idx_Sl (OwnC.sl hH 2 rfl hO') rfl rfl Tryd.underlying22 sz5 (by first | omega | (first | (simp; done) | (simp; omega) | (rw [bsz]; simp <;> omega)))) ?_;simp only [nf]
   refine plan_storeO 2 rfl rfl hH rfl rfl hO' rfl sz5 (by first | omega | (first | (simp; done) | (simp; omega) | (rw [bsz]; simp <;> omega))) ?_
   clear hH
   intro cs46 w45 hO47 hH
   (try simp only [nf, nh, Value.cells, arrB_set] at hH ⊢)
   refine plan_nil hH ?_
   clear hH
   intro w48 hH
   refine hK44 _ _ ?_
   (try clear hK44 K44)
   refine wrt [.p 0, .p 1, .p 2] ?_
   refine pm ?_;simp only [nf]
   refine pp rfl rfl (pr_bin rfl rfl (by first | exact bin_add_n (n := 1) (by first | omega | (first | (simp; done) | (simp; omega) | (rw [bsz]; simp <;> omega))) | exact bin_add_i (by first | omega | (first | (simp; done) | (simp; omega) | (rw [bsz]; simp <;> omega))) (by first | omega | (first | (simp; done) | (simp; omega) | (rw [bsz]; simp <;> omega))))) ?_;simp only [nf]
   refine pa ?_;simp only [nf]
   refine plan_nil hH ?_
   clear hH
   intro w49 hH
   (try simp only [Exit.then, Exit.inBlock, ↓reduceIte, Nat.reduceEqDiff])
   refine ⟨n - (i + 1), ?_, _, rfl, by kernel_rfl, ?_⟩
   · first | omega | (omega)
   simp only [ga]
   refine ⟨i + 1, cs46, rfl, ?_, rfl, ?_, ?_⟩
   ·
    exact hH
   · first | omega | (omega)
   · first | omega | (unfold hideL; rw [mask_tail _ _ _ _ (by omega)]; have hx := cut16 (maskR c.data.toList s.data.toList p) (show 1 + i < 16 by omega); rw [← hx]; exact hO47)
  ·
   (try simp only [cnd] at hc43)
   refine wp_exit ?_
   (try simp only [Exit.then, Exit.inBlock, ↓reduceIte, Nat.reduceEqDiff])
   refine hK27 _ _ ?_
   (try clear hK27 K27)
   refine wp_seq_k ?_
   intro K50 hK50
   refine wrt [.p 0, .q 1, .p 2] ?_
   refine pm ?_;simp only [nf]
   refine pq rfl rfl (qr_b2s (OwnC.sl hH 2 rfl hO') rfl Tryd.underlying22 Tryd.underlying5 Tryd.underlying9) ?_;simp only [nf]
   refine pa ?_;simp only [nf]
   refine plan_nil hH ?_
   clear hH
   intro w51 hH
   refine hK50 _ _ ?_
   (try clear hK50 K50)
   refine wp_ret ?_
   (try simp only [Exit.then, Exit.inBlock, ↓reduceIte, Nat.reduceEqDiff])
   refine BP.ret1 rfl rfl ?_
   obtain rfl : i = n := by omega
   exact ⟨rfl, hH.chg⟩
 ·
  (try simp only [cnd] at hc22)
  have hq := hc22
  refine wrp [.p 0, .p 1, .p 2, .p 4, .p 5, .p 6, .q 3, .p 7, .p 8, .e 9] ?_
  refine pm (pm ?_);simp only [nf]
  refine pp rfl rfl (pr_idx_Sl (i := 0) (OwnC.sl hH 2 rfl hO17) rfl rfl Tryd.underlying22 sz5 (by first | omega | (first | (simp; done) | (simp; omega) | (rw [bsz]; simp <;> omega)))) ?_;simp only [nf]
  refine pm ?_;simp only [nf]
  refine pp rfl rfl (pr_index_strD (i := 0) rfl rfl Tryd.underlying9 (by first | omega | (first | (simp; done) | (simp; omega) | (rw [bsz]; simp <;> omega)))) ?_;simp only [nf]
  refine pp rfl rfl (pr_bin rfl rfl (bin_rem_u8 _ 32 (by decide))) ?_;simp only [nf]
  refine pq rfl rfl (qr_load1 rfl Tryd.underlying5 rfl (Sl.cell (i := 0) (OwnC.sl hH 2 rfl hO17) (by first | omega | (first | (simp; done) | (simp; omega) | (rw [bsz]; simp <;> omega))))) ?_;simp only [nf]
  refine pp rfl rfl (pr_bin rfl rfl (bin_xor_u8 _ _)) ?_;simp only [nf]
  refine pp rfl rfl (pr_idx_Sl (i := 0) (OwnC.sl hH 2 rfl hO17) rfl rfl Tryd.underlying22 sz5 (by first | omega | (first | (simp; done) | (simp; omega) | (rw [bsz]; simp <;> omega)))) ?_;simp only [nf]
  refine plan_storeO 2 (j := 0) rfl rfl hH rfl rfl hO17 rfl sz5 (by first | omega | (first | (simp; done) | (simp; omega) | (rw [bsz]; simp <;> omega))) ?_
  clear hH
  intro cs53 w52 hO54 hH
  (try simp only [nf, nh, Value.cells, arrB_set] at hH ⊢)
  refine plan_nil hH ?_
  clear hH
  intro w55 hH
  refine hK19 _ _ ?_
  (try clear hK19 K19)
  refine wp_seq_k ?_
  intro K56 hK56
  refine wp_seq_k ?_
  intro K57 hK57
  refine wrt [.p 0] ?_
  refine pka 0 ?_;simp only [nf]
  refine plan_nil hH ?_
  clear hH
  intro w58 hH
  refine hK57 _ _ ?_
  (try clear hK57 K57)
  refine wp_block ?_
  obtain ⟨kc59, hkc60, hN⟩ := hH.name 0 rfl
  replace hH := hN; clear hN; simp only [List.set_cons_zero, List.set_cons_succ] at hH
  obtain ⟨kc61, hkc62, hN⟩ := hH.name 1 rfl
  replace hH := hN; clear hN; simp only [List.set_cons_zero, List.set_cons_succ] at hH
  refine wp_loopT [11] [45, 46, 47, 48, 49, 50, 51, 52, 53, 54, 55, 56, 57, 58, 59, 60, 61, 62, 63, 64, 65] (fun (n63 : Nat) (vs : List Value) (w' : World) => ∃ (i : Nat) (cs' : Array Value), vs = [I64 (i : Nat)] ∧ Hp [] w w' [(some b2, 30, kc59), (some b10, 103, kc61), (some b13, 5, cs')] ∧ n63 = n - i ∧ i ≤ n ∧ OwnC (some b13) s.size cap14 1 cs' ((hideL s.data.toList (maskL c.data.toList s.data.toList p) p i).map V8)) (n - 0) (by kernel_rfl) ?_ ?_
  ·
   simp only [ga]
   refine ⟨0, cs53, rfl, ?_, rfl, ?_, ?_⟩
   ·
    exact hH
   · first | omega | (omega)
   · first | omega | (unfold hideL; rw [mask_head]; first | (rw [if_pos (u8_hi _ hq), ← u8_mod16]; exact hO54) | (rw [if_neg (u8_lo _ hq), ← u8_mod32]; exact hO54))
  clear hH
  intro n63 vs64 w65 hR66 d0
  obtain ⟨i, cs', rfl, hH, hn67, hf68, hO'⟩ := hR66
  simp only [putAll, putD, List.set_cons_zero, List.set_cons_succ, Nat.zero_add, Nat.reduceAdd]
  have hhl := hideL_len s.data.toList (maskL c.data.toList s.data.toList p) p i
  subst hkc60 hkc62
  refine wp_seq_k ?_
  intro K69 hK69
  refine wp_seq_k ?_
  intro K70 hK70
  refine wrt [.p 0, .p 1, .p 2] ?_
  refine pm (pm ?_);simp only [nf]
  refine pp rfl rfl (pr_bin rfl rfl (by first | exact bin_lss_n  | exact bin_lss_i)) ?_;simp only [nf]
  refine plan_nil hH ?_
  clear hH
  intro w71 hH
  refine hK70 _ _ ?_
  (try clear hK70 K70)
  refine wp_cond_split rfl (fun hc72 => ?_) (fun hc72 => ?_)
  ·
   (try simp only [cnd] at hc72)
   refine wp_skip ?_
   refine hK69 _ _ ?_
   (try clear hK69 K69)
   refine wp_seq_k ?_
   intro K73 hK73
   refine wp_block ?_
   refine wrp [.p 0, .p 1, .p 2, .p 3, .p 4, .p 5, .p 6, .p 7, .p 8, .p 10, .p 11, .p 12, .p 13, .q 9, .p 14, .p 15, .e 16] ?_
   refine pm (pm (pm ?_));simp only [nf]
   refine pp rfl rfl (pr_bin rfl rfl (by first | exact bin_add_n (by first | omega | (first | (simp; done) | (simp; omega) | (rw [bsz]; simp <;> omega))) | exact bin_add_i (by first | omega | (first | (simp; done) | (simp; omega) | (rw [bsz]; simp <;> omega))) (by first | omega | (first | (simp; done) | (simp; omega) | (rw [bsz]; simp <;> omega))))) ?_;simp only [nf]
   refine pm (pm (pm ?_));simp only [nf]
   refine pp rfl rfl (pr_bin rfl rfl (by first | exact bin_add_n (by first | omega | (first | (simp; done) | (simp; omega) | (rw [bsz]; simp <;> omega))) | exact bin_add_i (by first | omega | (first | (simp; done) | (simp; omega) | (rw [bsz]; simp <;> omega))) (by first | omega | (first | (simp; done) | (simp; omega) | (rw [bsz]; simp <;> omega))))) ?_;simp only [nf]
   refine pp rfl rfl (pr_idx_Sl (OwnC.sl hH 2 rfl hO') rfl rfl Tryd.underlying22 sz5 (by first | omega | (first | (simp; done) | (simp; omega) | (rw [bsz]; simp <;> omega)))) ?_;simp only [nf]
   refine pm (pm ?_);simp only [nf]
   refine pp rfl rfl (pr_bin rfl rfl (by first | exact bin_add_n (m := 1) (by first | omega | (first | (simp; done) | (simp; omega) | (rw [bsz]; simp <;> omega))) | exact bin_add_i (by first | omega | (first | (simp; done) | (simp; omega) | (rw [bsz]; simp <;> omega))) (by first | omega | (first | (simp; done) | (simp; omega) | (rw [bsz]; simp <;> omega))))) ?_;simp only [nf]
   refine pp rfl rfl (pr_index_strD rfl rfl Tryd.underlying9 (by first | omega | (first | (simp; done) | (simp; omega) | (rw [bsz]; simp <;> omega)))) ?_;simp only [nf]
   refine pq rfl rfl (qr_load1 rfl Tryd.underlying5 rfl (Sl.cell (OwnC.sl hH 2 rfl hO') (by first | omega | (first | (simp; done) | (simp; omega) | (rw [bsz]; simp <;> omega))))) ?_;simp only [nf]
   refine pp rfl rfl (pr_bin rfl rfl (bin_xor_u8 _ _)) ?_;simp only [nf]
   refine pp rfl rfl (pr_idx_Sl (OwnC.sl hH 2 rfl hO') rfl rfl Tryd.underlying22 sz5 (by first | omega | (first | (simp; done) | (simp; omega) | (rw [bsz]; simp <;> omega)))) ?_;simp only [nf]
   refine plan_storeO 2 rfl rfl hH rfl rfl hO' rfl sz5 (by first | omega | (first | (simp; done) | (simp; omega) | (rw [bsz]; simp <;> omega))) ?_
   clear hH
   intro cs75 w74 hO76 hH
   (try simp only [nf, nh, Value.cells, arrB_set] at hH ⊢)
   refine plan_nil hH ?_
   clear hH
   intro w77 hH
   refine hK73 _ _ ?_
   (try clear hK73 K73)
   refine wrt [.p 0, .p 1, .p 2] ?_
   refine pm ?_;simp only [nf]
   refine pp rfl rfl (pr_bin rfl rfl (by first | exact bin_add_n (n := 1) (by first | omega | (first | (simp; done) | (simp; omega) | (rw [bsz]; simp <;> omega))) | exact bin_add_i (by first | omega | (first | (simp; done) | (simp; omega) | (rw [bsz]; simp <;> omega))) (by first | omega | (first | (simp; done) | (simp; omega) | (rw [bsz]; simp <;> omega))))) ?_;simp only [nf]
   refine pa ?_;simp only [nf]
   refine plan_nil hH ?_
   clear hH
   intro w78 hH
   (try simp only [Exit.then, Exit.inBlock, ↓reduceIte, Nat.reduceEqDiff])
   refine ⟨n - (i + 1), ?_, _, rfl, by kernel_rfl, ?_⟩
   · first | omega | (omega)
   simp only [ga]
   refine ⟨i + 1, cs75, rfl, ?_, rfl, ?_, ?_⟩
   ·
    exact hH
   · first | omega | (omega)
   · first | omega | (unfold hideL; rw [mask_tail _ _ _ _ (by omega)]; have hx := cut16 (maskR c.data.toList s.data.toList p) (show 1 + i < 16 by omega); rw [← hx]; exact hO76)
  ·
   (try simp only [cnd] at hc72)
   refine wp_exit ?_
   (try simp only [Exit.then, Exit.inBlock, ↓reduceIte, Nat.reduceEqDiff])
   refine hK56 _ _ ?_
   (try clear hK56 K56)
   refine wp_seq_k ?_
   intro K79 hK79
   refine wrt [.p 0, .q 1, .p 2] ?_
   refine pm ?_;simp only [nf]
   refine pq rfl rfl (qr_b2s (OwnC.sl hH 2 rfl hO') rfl Tryd.underlying22 Tryd.underlying5 Tryd.underlying9) ?_;simp only [nf]
   refine pa ?_;simp only [nf]
   refine plan_nil hH ?_
   clear hH
   intro w80 hH
   refine hK79 _ _ ?_
   (try clear hK79 K79)
   refine wp_ret ?_
   (try simp only [Exit.then, Exit.inBlock, ↓reduceIte, Nat.reduceEqDiff])
   refine BP.ret1 rfl rfl ?_
   obtain rfl : i = n := by omega
   exact ⟨rfl, hH.chg⟩
end Go.Proofs.YtmoaddicejohgaaDoor
set_option linter.unusedSimpArgs false
set_option linter.unusedVariables false
set_option maxRecDepth 100000
set_option maxHeartbeats 4000000
namespace Go.Proofs.YtmoaddicejohgaaDoor
open Go
open List (getD_cons_zero getD_cons_succ set_cons_zero set_cons_succ)
def keyF16 (a : ByteArray) : Nat → UInt8 := kexp fun i => a.data.toList.getD i 0
def sealBody (a b : ByteArray) (hl : List UInt8) (n : Nat) (cl : List UInt8) : List UInt8 := hl ++ sealedL (keyF16 a) (hP (keyF16 a)) (nonL b.data.toList n 8) hl cl
def sealOut (a b c : ByteArray) (hl : List UInt8) (sz n : Nat) (cl : List UInt8) : List UInt8 :=
  hideL (sealBody a b hl n cl) (maskL c.data.toList (sealBody a b hl n cl) (hl.length - sz)) (hl.length - sz) sz
def sealE (a b c : ByteArray) (hl : List UInt8) (size number : Int) (cn : Nat) : Nat :=
  if 1 ≤ size ∧ size ≤ 4 ∧ 0 ≤ number ∧ number ≤ 4611686018427387903 ∧ rightB a b c = true ∧ size + 1 ≤ hl.length then
    if (hl.getD 0 0).toNat % 4 = size.toNat - 1 ∧ lowN (hl.drop (hl.length - size.toNat)) size.toNat = number.toNat % 2 ^ (8 * size.toNat) then
      if cn + size.toNat < 4 then 3 else if 65000 < cn then 5 else 0
    else 2
  else 1
theorem rightB_is {a b c : ByteArray} (h : rightB a b c = true) : a.size = 16 ∧ b.size = 12 ∧ c.size = 16 := by
  unfold rightB at h
  simpa using h
theorem u8_and3 (x : UInt8) : (x &&& 3).toNat = x.toNat % 4 := eq_of_beq (u8_all (fun x => (x &&& 3).toNat == x.toNat % 4) (by decide) x)
theorem lowN_succ (l : List UInt8) (n : Nat) : lowN l (n + 1) = lowN l n * 256 + (l.getD n 0).toNat := by
  show lowN l n * 2 ^ 8 ||| _ = _
  rw [Nat.mul_comm, ← Nat.two_pow_add_eq_or_of_lt (lt_u8 _), Nat.mul_comm]
theorem low_byte (l : List UInt8) : ∀ n i, i < n → lowN l n / 2 ^ (8 * i) % 256 = (l.getD (n - 1 - i) 0).toNat
  | 0, _, h => absurd h (Nat.not_lt_zero _)
  | n + 1, i, h => by
    have hb := lt_u8 (l.getD n 0)
    rw [lowN_succ]
    cases i with
    | zero =>
      rw [show n + 1 - 1 - 0 = n by omega, show 2 ^ (8 * 0) = 1 from rfl]; omega
    | succ i =>
      rw [show n + 1 - 1 - (i + 1) = n - 1 - i by omega, ← low_byte l n i (by omega), show 8 * (i + 1) = 8 + 8 * i by omega, Nat.pow_add, ← Nat.div_div_eq_div_mul]
      rw [show (lowN l n * 256 + (l.getD n 0).toNat) / 2 ^ 8 = lowN l n by omega]
theorem low_step {A B k : Nat} (h : A % 2 ^ (8 * k) = B % 2 ^ (8 * k)) (hb : A / 2 ^ (8 * k) % 256 = B / 2 ^ (8 * k) % 256) : A % 2 ^ (8 * (k + 1)) = B % 2 ^ (8 * (k + 1)) := by
  rw [show 8 * (k + 1) = 8 * k + 8 by omega, Nat.pow_add, Nat.mod_mul, Nat.mod_mul, h, hb]
theorem low_no {A B k n : Nat} (hk : k < n) (hb : A / 2 ^ (8 * k) % 256 ≠ B / 2 ^ (8 * k) % 256) : A % 2 ^ (8 * n) ≠ B % 2 ^ (8 * n) := by
  intro h
  apply hb
  have e : ∀ X : Nat, X % 2 ^ (8 * n) / 2 ^ (8 * k) % 256 = X / 2 ^ (8 * k) % 256 := fun X => by
    rw [show 8 * n = 8 * k + (8 + 8 * (n - k - 1)) by omega, Nat.pow_add, Nat.mod_mul_right_div_self, Nat.pow_add]
    exact Nat.mod_mod_of_dvd _ ⟨_, rfl⟩
  rw [← e A, ← e B, h]
theorem drop_low (l : List UInt8) (sz i : Nat) (hi : i < sz) (hs : sz ≤ l.length) : (l.drop (l.length - sz)).getD (sz - 1 - i) 0 = l.getD (l.length - 1 - i) 0 := by
  simp only [List.getD, List.getElem?_drop]
  rw [show l.length - sz + (sz - 1 - i) = l.length - 1 - i by omega]
theorem ofNat_byte (x : UInt8) (n : Nat) : x = UInt8.ofNat n ↔ x.toNat = n % 256 := by
  constructor
  · rintro rfl; simp
  · intro h; apply UInt8.toNat_inj.1; simpa using h
theorem sealed_bsz (K : Nat → UInt8) (h : P2) (nl al bl : List UInt8) : (⟨(sealedL K h nl al bl).toArray⟩ : ByteArray).size = bl.length + 16 := by rw [bsz, sealedL_len]
theorem sealBody_len (a b : ByteArray) (hl : List UInt8) (n : Nat) (cl : List UInt8) : (sealBody a b hl n cl).length = hl.length + (cl.length + 16) := by
  unfold sealBody; rw [List.length_append, sealedL_len]
theorem sealOut_len (a b c : ByteArray) (hl : List UInt8) (sz n : Nat) (cl : List UInt8) : (sealOut a b c hl sz n cl).length = hl.length + (cl.length + 16) := by
  unfold sealOut; rw [hideL_len, sealBody_len]
theorem gseal_calls (a b c : ByteArray) (hv cv : Value) (hl cl : List UInt8) (size number : Int) (w : World) (hh : Sl w hv hl) (hcl : Sl w cv cl) (hl1 : hl.length ≤ 100000) (hl2 : cl.length ≤ 100000) (hs1 : -9223372036854775808 ≤ size) (hs2 : size ≤ 9223372036854775807) : Ret Tryd.prog 13 #[.agg #[.string a, .string b, .string c], hv, I64 size, I64 number, cv] w fun v w' => (sealE a b c hl size number cl.length = 0 → ∃ o cap cs, v = .tuple #[own o (hl.length + (cl.length + 16)) cap, I64 (0 : Nat)] ∧ Chg [] w w' ∧ OwnC o (hl.length + (cl.length + 16)) cap 1 cs ((sealOut a b c hl size.toNat number.toNat cl).map V8) ∧ ∀ b, o = some b → w.heap.size ≤ b ∧ Blk w' b 5 cs) ∧ ∀ e, sealE a b c hl size number cl.length = e → e ≠ 0 → v = .tuple #[.slice none 0 0, I64 (e : Nat)] ∧ Chg [] w w' := by
 refine Ret.enter Tryd.func13 rfl ?_
 simp only [Tryd.ntmps13, fe, Nat.reduceAdd, Nat.reduceSub]
 have hH := Hp.start [] w
 refine wp_seq_k ?_
 intro K1 hK1
 refine wrt [.x 0, .p 1, .p 2] ?_
 refine plan_box rfl rfl hH rfl ?_
 clear hH
 intro b2 w3 hH
 (try simp only [nf, nh, Value.cells, arrB_set] at hH ⊢)
 refine pa (pka 0 ?_);simp only [nf]
 refine plan_nil hH ?_
 clear hH
 intro w4 hH
 refine hK1 _ _ ?_
 (try clear hK1 K1)
 refine wp_seq_k ?_
 intro K5 hK5
 refine wp_seq_k ?_
 intro K6 hK6
 refine wrt [.p 0, .p 1, .p 2, .p 3, .p 4, .p 5, .p 6, .p 7, .p 8, .p 9, .p 10, .p 11, .p 12, .p 13, .p 14, .q 15, .q 16, .p 17, .p 18, .p 19, .p 20, .p 21, .p 22, .p 23, .p 24, .p 25] ?_
 refine pm ?_;simp only [nf]
 refine pp rfl rfl (pr_bin rfl rfl (by first | exact bin_lss_n (n := 1)  | exact bin_lss_i)) ?_;simp only [nf]
 refine pm ?_;simp only [nf]
 refine plan_pc_f rfl rfl rfl (fun hb => by have hb' := hb; try simp only [gsl] at hb'; rw [hb]; exact pr_move) ?_
 (try simp only [nf])
 refine plan_pc_f rfl rfl rfl (fun hb => by have hb' := hb; try simp only [gsl] at hb'; rw [hb]; exact (pr_bin rfl rfl (by first | exact bin_gtr_n (n := 4)  | exact bin_gtr_i))) ?_
 (try simp only [nf])
 refine pp rfl rfl (pr_pick_or rfl rfl rfl) ?_;simp only [nf]
 refine pm ?_;simp only [nf]
 refine plan_pc_f rfl rfl rfl (fun hb => by have hb' := hb; try simp only [gsl] at hb'; rw [hb]; exact pr_move) ?_
 (try simp only [nf])
 refine plan_pc_f rfl rfl rfl (fun hb => by have hb' := hb; try simp only [gsl] at hb'; rw [hb]; exact (pr_bin rfl rfl (by first | exact bin_lss_n (n := 0)  | exact bin_lss_i))) ?_
 (try simp only [nf])
 refine pp rfl rfl (pr_pick_or rfl rfl rfl) ?_;simp only [nf]
 refine pm ?_;simp only [nf]
 refine plan_pc_f rfl rfl rfl (fun hb => by have hb' := hb; try simp only [gsl] at hb'; rw [hb]; exact pr_move) ?_
 (try simp only [nf])
 refine plan_pc_f rfl rfl rfl (fun hb => by have hb' := hb; try simp only [gsl] at hb'; rw [hb]; exact (pr_bin rfl rfl (by first | exact bin_gtr_n (n := 4611686018427387903)  | exact bin_gtr_i))) ?_
 (try simp only [nf])
 refine pp rfl rfl (pr_pick_or rfl rfl rfl) ?_;simp only [nf]
 refine pm ?_;simp only [nf]
 refine plan_qc_f rfl rfl rfl (fun hb => by have hb' := hb; try simp only [gsl] at hb'; rw [hb]; exact (qr_loadW rfl (hH.blk 0 rfl) Tryd.underlying37 rfl sz37 (by simp))) ?_
 (try simp only [nf])
 refine plan_qc_f rfl rfl rfl (fun hb => by have hb' := hb; try simp only [gsl] at hb'; rw [hb]; exact (qr_call cf27 (fun w' hw => right_calls _ _ _ w') rfl)) ?_
 (try simp only [nf])
 refine plan_pc_f rfl rfl rfl (fun hb => by have hb' := hb; try simp only [gsl] at hb'; rw [hb]; exact (pr_not rfl)) ?_
 (try simp only [nf])
 refine pp rfl rfl (pr_pick_or rfl rfl rfl) ?_;simp only [nf]
 refine pm ?_;simp only [nf]
 refine plan_pc_f rfl rfl rfl (fun hb => by have hb' := hb; try simp only [gsl] at hb'; rw [hb]; exact pr_move) ?_
 (try simp only [nf])
 refine plan_pc_f rfl rfl rfl (fun hb => by have hb' := hb; try simp only [gsl] at hb'; rw [hb]; exact (pr_len_Sl (hh.chg hH.chg) rfl Tryd.underlying22)) ?_
 (try simp only [nf])
 refine plan_pc_f rfl rfl rfl (fun hb => by have hb' := hb; try simp only [gsl] at hb'; rw [hb]; exact pr_move) ?_
 (try simp only [nf])
 refine plan_pc_f rfl rfl rfl (fun hb => by have hb' := hb; try simp only [gsl] at hb'; rw [hb]; exact (pr_bin rfl rfl (by first | exact bin_add_n (n := 1) (by first | omega | (first | (simp only [List.length_drop, List.length_append, sealedL_len] at *; omega) | (have := lt_u8 (hl.getD 0 0 &&& 3); omega))) | exact bin_add_i (by first | omega | (first | (simp only [List.length_drop, List.length_append, sealedL_len] at *; omega) | (have := lt_u8 (hl.getD 0 0 &&& 3); omega))) (by first | omega | (first | (simp only [List.length_drop, List.length_append, sealedL_len] at *; omega) | (have := lt_u8 (hl.getD 0 0 &&& 3); omega)))))) ?_
 (try simp only [nf])
 refine plan_pc_f rfl rfl rfl (fun hb => by have hb' := hb; try simp only [gsl] at hb'; rw [hb]; exact (pr_bin rfl rfl (by first | exact bin_lss_n  | exact bin_lss_i))) ?_
 (try simp only [nf])
 refine pp rfl rfl (pr_pick_or rfl rfl rfl) ?_;simp only [nf]
 refine plan_nil hH ?_
 clear hH
 intro w7 hH
 refine hK6 _ _ ?_
 (try clear hK6 K6)
 refine wp_cond_split rfl (fun hc8 => ?_) (fun hc8 => ?_)
 ·
  (try simp only [cnd, gsl] at hc8)
  have hq := hc8
  refine wp_seq_k ?_
  intro K9 hK9
  refine wrt [.p 0, .p 1] ?_
  refine pa (pka 1 ?_);simp only [nf]
  refine plan_nil hH ?_
  clear hH
  intro w10 hH
  refine hK9 _ _ ?_
  (try clear hK9 K9)
  refine wp_ret ?_
  (try simp only [Exit.then, Exit.inBlock, ↓reduceIte, Nat.reduceEqDiff])
  refine BP.ret2 rfl rfl rfl ?_
  have he : sealE a b c hl size number cl.length = 1 := by
    unfold sealE
    rw [if_neg (fun h => by obtain ⟨h1, h2, h3, h4, h5, h6⟩ := h; rcases hq with ((((hq | hq) | hq) | hq) | hq) | hq <;> first | omega | (rw [h5] at hq; cases hq))]
  exact ⟨fun h => by (rw [he] at h; cases h), fun e h1 _ => by (rw [he] at h1; subst h1; exact ⟨rfl, hH.chg⟩)⟩
 ·
  (try simp only [cnd, gsl] at hc8)
  have hq := hc8
  have hok : 1 ≤ size ∧ size ≤ 4 ∧ 0 ≤ number ∧ number ≤ 4611686018427387903 ∧ rightB a b c = true ∧ size + 1 ≤ hl.length := ⟨by omega, by omega, by omega, by omega, hq.1.2, by first | omega | (rw [str_len]; omega)⟩
  obtain ⟨ha, hb, hc⟩ := rightB_is hok.2.2.2.2.1
  obtain ⟨sz, rfl⟩ : ∃ k : Nat, size = k := ⟨size.toNat, by omega⟩
  obtain ⟨nu, rfl⟩ : ∃ k : Nat, number = k := ⟨number.toNat, by omega⟩
  have hm : ((sz : Nat) : Int).toNat = sz := by omega
  have hnm : ((nu : Nat) : Int).toNat = nu := by omega
  obtain ⟨hw1, hw2, hw3⟩ := pow_size sz (by omega) (by omega)
  have hsz1 : 1 ≤ sz := by omega
  have hsz4 : sz ≤ 4 := by omega
  refine wp_skip ?_
  refine hK5 _ _ ?_
  (try clear hK5 K5)
  refine wp_seq_k ?_
  intro K11 hK11
  refine wp_seq_k ?_
  intro K12 hK12
  refine wrp [.p 0, .p 1, .p 5, .p 6, .q 2, .p 3, .p 4, .p 7, .p 8, .p 9, .p 10, .p 11, .p 12, .p 13, .p 14, .p 16, .p 17, .p 18, .p 19, .p 20, .p 21, .q 15, .p 22, .p 23] ?_
  refine pm ?_;simp only [nf]
  refine pp rfl rfl (pr_idx_Sl (i := 0) (hh.chg hH.chg) rfl rfl Tryd.underlying22 sz5 (by first | omega | (first | (simp only [List.length_drop, List.length_append, sealedL_len] at *; omega) | (have := lt_u8 (hl.getD 0 0 &&& 3); omega)))) ?_;simp only [nf]
  refine pm ?_;simp only [nf]
  refine pp rfl rfl (pr_bin rfl rfl (by first | exact bin_sub_n (n := 1) (by first | omega | (first | (simp only [List.length_drop, List.length_append, sealedL_len] at *; omega) | (have := lt_u8 (hl.getD 0 0 &&& 3); omega))) (by first | omega | (first | (simp only [List.length_drop, List.length_append, sealedL_len] at *; omega) | (have := lt_u8 (hl.getD 0 0 &&& 3); omega))) | exact bin_sub_i (by first | omega | (first | (simp only [List.length_drop, List.length_append, sealedL_len] at *; omega) | (have := lt_u8 (hl.getD 0 0 &&& 3); omega))) (by first | omega | (first | (simp only [List.length_drop, List.length_append, sealedL_len] at *; omega) | (have := lt_u8 (hl.getD 0 0 &&& 3); omega))))) ?_;simp only [nf]
  refine pq rfl rfl (qr_load1 rfl Tryd.underlying5 rfl (Sl.cell (i := 0) (hh.chg hH.chg) (by first | omega | (first | (simp only [List.length_drop, List.length_append, sealedL_len] at *; omega) | (have := lt_u8 (hl.getD 0 0 &&& 3); omega))))) ?_;simp only [nf]
  refine pp rfl rfl (pr_bin rfl rfl (bin_and_u8 _ 3)) ?_;simp only [nf]
  refine pp rfl rfl (pr_conv rfl (cnv_u8_n _ Tryd.underlying5 Tryd.underlying3)) ?_;simp only [nf]
  refine pp rfl rfl (pr_bin rfl rfl (by first | exact bin_neq_n  | exact bin_neq_i)) ?_;simp only [nf]
  refine pm ?_;simp only [nf]
  refine plan_pc_f rfl rfl rfl (fun hb => by have hb' := hb; try simp only [gsl] at hb'; rw [hb]; exact pr_move) ?_
  (try simp only [nf])
  refine plan_pc_f rfl rfl rfl (fun hb => by have hb' := hb; try simp only [gsl] at hb'; rw [hb]; exact pr_move) ?_
  (try simp only [nf])
  refine plan_pc_f rfl rfl rfl (fun hb => by have hb' := hb; try simp only [gsl] at hb'; rw [hb]; exact (pr_len_Sl (hh.chg hH.chg) rfl Tryd.underlying22)) ?_
  (try simp only [nf])
  refine plan_pc_f rfl rfl rfl (fun hb => by have hb' := hb; try simp only [gsl] at hb'; rw [hb]; exact pr_move) ?_
  (try simp only [nf])
  refine plan_pc_f rfl rfl rfl (fun hb => by have hb' := hb; try simp only [gsl] at hb'; rw [hb]; exact (pr_bin rfl rfl (by first | exact bin_sub_n (by first | omega | (first | (simp only [List.length_drop, List.length_append, sealedL_len] at *; omega) | (have := lt_u8 (hl.getD 0 0 &&& 3); omega))) (by first | omega | (first | (simp only [List.length_drop, List.length_append, sealedL_len] at *; omega) | (have := lt_u8 (hl.getD 0 0 &&& 3); omega))) | exact bin_sub_i (by first | omega | (first | (simp only [List.length_drop, List.length_append, sealedL_len] at *; omega) | (have := lt_u8 (hl.getD 0 0 &&& 3); omega))) (by first | omega | (first | (simp only [List.length_drop, List.length_append, sealedL_len] at *; omega) | (have := lt_u8 (hl.getD 0 0 &&& 3); omega)))))) ?_
  (try simp only [nf])
  refine plan_pc_f rfl rfl rfl (fun hb => by have hb' := hb; try simp only [gsl] at hb'; rw [hb]; exact (pr_slice_Sl_l (hh.chg hH.chg) rfl rfl Tryd.underlying22 sz5 (by first | omega | (first | (simp only [List.length_drop, List.length_append, sealedL_len] at *; omega) | (have := lt_u8 (hl.getD 0 0 &&& 3); omega))))) ?_
  (try simp only [nf])
  refine plan_pc_f rfl rfl rfl (fun hb => by have hb' := hb; try simp only [gsl] at hb'; rw [hb]; exact pr_move) ?_
  (try simp only [nf])
  refine plan_pc_f rfl rfl rfl (fun hb => by have hb' := hb; try simp only [gsl] at hb'; rw [hb]; exact pr_move) ?_
  (try simp only [nf])
  refine plan_pc_f rfl rfl rfl (fun hb => by have hb' := hb; try simp only [gsl] at hb'; rw [hb]; exact (pr_bin rfl rfl (by first | exact bin_mul_n (m := 8) (by first | omega | (first | (simp only [List.length_drop, List.length_append, sealedL_len] at *; omega) | (have := lt_u8 (hl.getD 0 0 &&& 3); omega))) | exact bin_mul_i (by first | omega | (first | (simp only [List.length_drop, List.length_append, sealedL_len] at *; omega) | (have := lt_u8 (hl.getD 0 0 &&& 3); omega))) (by first | omega | (first | (simp only [List.length_drop, List.length_append, sealedL_len] at *; omega) | (have := lt_u8 (hl.getD 0 0 &&& 3); omega)))))) ?_
  (try simp only [nf])
  refine plan_pc_f rfl rfl rfl (fun hb => by have hb' := hb; try simp only [gsl] at hb'; rw [hb]; exact (pr_bin rfl rfl (bin_shl_n (m := 1) (by first | omega | (first | (simp only [List.length_drop, List.length_append, sealedL_len] at *; omega) | (have := lt_u8 (hl.getD 0 0 &&& 3); omega))) (by first | omega | (first | (simp only [List.length_drop, List.length_append, sealedL_len] at *; omega) | (have := lt_u8 (hl.getD 0 0 &&& 3); omega)))))) ?_
  (try simp only [nf])
  refine plan_pc_f rfl rfl rfl (fun hb => by have hb' := hb; try simp only [gsl] at hb'; rw [hb]; exact (pr_bin rfl rfl (by first | exact bin_sub_n (n := 1) (by first | omega | (first | (simp only [List.length_drop, List.length_append, sealedL_len] at *; omega) | (have := lt_u8 (hl.getD 0 0 &&& 3); omega))) (by first | omega | (first | (simp only [List.length_drop, List.length_append, sealedL_len] at *; omega) | (have := lt_u8 (hl.getD 0 0 &&& 3); omega))) | exact bin_sub_i (by first | omega | (first | (simp only [List.length_drop, List.length_append, sealedL_len] at *; omega) | (have := lt_u8 (hl.getD 0 0 &&& 3); omega))) (by first | omega | (first | (simp only [List.length_drop, List.length_append, sealedL_len] at *; omega) | (have := lt_u8 (hl.getD 0 0 &&& 3); omega)))))) ?_
  (try simp only [nf])
  refine plan_pc_f rfl rfl rfl (fun hb => by have hb' := hb; try simp only [gsl] at hb'; rw [hb]; exact (pr_bin rfl rfl (by first | exact bin_and_n (by first | omega | (first | (simp only [List.length_drop, List.length_append, sealedL_len] at *; omega) | (have := lt_u8 (hl.getD 0 0 &&& 3); omega))) (by first | omega | (first | (simp only [List.length_drop, List.length_append, sealedL_len] at *; omega) | (have := lt_u8 (hl.getD 0 0 &&& 3); omega)))))) ?_
  (try simp only [nf])
  refine plan_qc_f rfl rfl rfl (fun hb => by have hb' := hb; try simp only [gsl] at hb'; rw [hb]; exact (qr_call cf28 (fun w' hw => low_calls _ _ w' ((Sl.cutl (hh.chg hH.chg) (by first | omega | (first | (simp only [List.length_drop, List.length_append, sealedL_len] at *; omega) | (have := lt_u8 (hl.getD 0 0 &&& 3); omega)))).chg hw) (by rw [List.length_drop]; omega)) rfl)) ?_
  (try simp only [nf])
  refine plan_pc_f rfl rfl rfl (fun hb => by have hb' := hb; try simp only [gsl] at hb'; rw [hb]; exact (pr_bin rfl rfl (by first | exact bin_neq_n  | exact bin_neq_i))) ?_
  (try simp only [nf])
  refine pp rfl rfl (pr_pick_or rfl rfl rfl) ?_;simp only [nf]
  refine plan_nil hH ?_
  clear hH
  intro w13 hH
  refine hK12 _ _ ?_
  (try clear hK12 K12)
  refine wp_cond_split rfl (fun hc14 => ?_) (fun hc14 => ?_)
  ·
   (try simp only [cnd, gsl] at hc14)
   have hf := hc14
   refine wp_seq_k ?_
   intro K15 hK15
   refine wrt [.p 0, .p 1] ?_
   refine pa (pka 2 ?_);simp only [nf]
   refine plan_nil hH ?_
   clear hH
   intro w16 hH
   refine hK15 _ _ ?_
   (try clear hK15 K15)
   refine wp_ret ?_
   (try simp only [Exit.then, Exit.inBlock, ↓reduceIte, Nat.reduceEqDiff])
   refine BP.ret2 rfl rfl rfl ?_
   have he : sealE a b c hl (sz : Nat) (nu : Nat) cl.length = 2 := by
     unfold sealE
     rw [if_pos hok, hm, hnm, if_neg (fun h => by (obtain ⟨h1, h2⟩ := h; rw [u8_and3, Nat.one_mul, Nat.and_two_pow_sub_one_eq_mod, List.length_drop] at hf; rw [show hl.length - (hl.length - sz) = sz by omega] at hf; rcases hf with hf | hf <;> first | exact hf h1 | exact hf h2))]
   exact ⟨fun h => by (rw [he] at h; cases h), fun e h1 _ => by (rw [he] at h1; subst h1; exact ⟨rfl, hH.chg⟩)⟩
  ·
   (try simp only [cnd, gsl] at hc14)
   have hf := hc14
   refine wp_skip ?_
   refine hK11 _ _ ?_
   (try clear hK11 K11)
   refine wp_seq_k ?_
   intro K17 hK17
   refine wp_block ?_
   refine wp_seq_k ?_
   intro K18 hK18
   refine wrt [.p 0, .p 1, .p 2, .p 3, .p 4, .p 5] ?_
   refine pm ?_;simp only [nf]
   refine pp rfl rfl (pr_len_Sl (hcl.chg hH.chg) rfl Tryd.underlying22) ?_;simp only [nf]
   refine pm ?_;simp only [nf]
   refine pp rfl rfl (pr_bin rfl rfl (by first | exact bin_sub_n (m := 4) (by first | omega | (first | (simp only [List.length_drop, List.length_append, sealedL_len] at *; omega) | (have := lt_u8 (hl.getD 0 0 &&& 3); omega))) (by first | omega | (first | (simp only [List.length_drop, List.length_append, sealedL_len] at *; omega) | (have := lt_u8 (hl.getD 0 0 &&& 3); omega))) | exact bin_sub_i (by first | omega | (first | (simp only [List.length_drop, List.length_append, sealedL_len] at *; omega) | (have := lt_u8 (hl.getD 0 0 &&& 3); omega))) (by first | omega | (first | (simp only [List.length_drop, List.length_append, sealedL_len] at *; omega) | (have := lt_u8 (hl.getD 0 0 &&& 3); omega))))) ?_;simp only [nf]
   refine pp rfl rfl (pr_bin rfl rfl (by first | exact bin_lss_n  | exact bin_lss_i)) ?_;simp only [nf]
   refine pa ?_;simp only [nf]
   refine plan_nil hH ?_
   clear hH
   intro w19 hH
   refine hK18 _ _ ?_
   (try clear hK18 K18)
   refine wp_cond_split rfl (fun hc20 => ?_) (fun hc20 => ?_)
   ·
    (try simp only [cnd, gsl] at hc20)
    have ht := hc20
    refine wp_seq_k ?_
    intro K21 hK21
    refine wrt [.p 0, .p 1] ?_
    refine pa (pka 3 ?_);simp only [nf]
    refine plan_nil hH ?_
    clear hH
    intro w22 hH
    refine hK21 _ _ ?_
    (try clear hK21 K21)
    refine wp_ret ?_
    (try simp only [Exit.then, Exit.inBlock, ↓reduceIte, Nat.reduceEqDiff])
    refine BP.ret2 rfl rfl rfl ?_
    have hform : (hl.getD 0 0).toNat % 4 = sz - 1 ∧ lowN (hl.drop (hl.length - sz)) sz = nu % 2 ^ (8 * sz) := by
      rw [u8_and3, Nat.one_mul, Nat.and_two_pow_sub_one_eq_mod, List.length_drop] at hf
      rw [show hl.length - (hl.length - sz) = sz by omega] at hf
      exact hf
    have he : sealE a b c hl (sz : Nat) (nu : Nat) cl.length = 3 := by
      unfold sealE
      rw [if_pos hok, hm, hnm, if_pos hform, if_pos (by omega)]
    exact ⟨fun h => by (rw [he] at h; cases h), fun e h1 _ => by (rw [he] at h1; subst h1; exact ⟨rfl, hH.chg⟩)⟩
   ·
    (try simp only [cnd, gsl] at hc20)
    have ht := hc20
    refine wp_seq_k ?_
    intro K23 hK23
    refine wrt [.p 0, .p 1, .p 2, .p 3] ?_
    refine pm ?_;simp only [nf]
    refine pp rfl rfl (pr_len_Sl (hcl.chg hH.chg) rfl Tryd.underlying22) ?_;simp only [nf]
    refine pp rfl rfl (pr_bin rfl rfl (by first | exact bin_gtr_n (n := 65000)  | exact bin_gtr_i)) ?_;simp only [nf]
    refine pa ?_;simp only [nf]
    refine plan_nil hH ?_
    clear hH
    intro w24 hH
    refine hK23 _ _ ?_
    (try clear hK23 K23)
    refine wp_cond_split rfl (fun hc25 => ?_) (fun hc25 => ?_)
    ·
     (try simp only [cnd, gsl] at hc25)
     have hbg := hc25
     refine wp_seq_k ?_
     intro K26 hK26
     refine wrt [.p 0, .p 1] ?_
     refine pa (pka 5 ?_);simp only [nf]
     refine plan_nil hH ?_
     clear hH
     intro w27 hH
     refine hK26 _ _ ?_
     (try clear hK26 K26)
     refine wp_ret ?_
     (try simp only [Exit.then, Exit.inBlock, ↓reduceIte, Nat.reduceEqDiff])
     refine BP.ret2 rfl rfl rfl ?_
     have hform : (hl.getD 0 0).toNat % 4 = sz - 1 ∧ lowN (hl.drop (hl.length - sz)) sz = nu % 2 ^ (8 * sz) := by
       rw [u8_and3, Nat.one_mul, Nat.and_two_pow_sub_one_eq_mod, List.length_drop] at hf
       rw [show hl.length - (hl.length - sz) = sz by omega] at hf
       exact hf
     have he : sealE a b c hl (sz : Nat) (nu : Nat) cl.length = 5 := by
       unfold sealE
       rw [if_pos hok, hm, hnm, if_pos hform, if_neg (by omega), if_pos (by omega)]
     exact ⟨fun h => by (rw [he] at h; cases h), fun e h1 _ => by (rw [he] at h1; subst h1; exact ⟨rfl, hH.chg⟩)⟩
    ·
     (try simp only [cnd, gsl] at hc25)
     have hbg := hc25
     refine wp_skip ?_
     refine hK17 _ _ ?_
     (try clear hK17 K17)
     refine wp_seq_k ?_
     intro K28 hK28
     refine wrt [.p 0, .q 1, .x 2, .x 3, .p 4, .p 5, .p 6, .p 7, .p 8] ?_
     refine pp rfl rfl (pr_fieldAddr 0 rfl Tryd.underlying37 rfl rfl sz9) ?_;simp only [nf]
     refine pq rfl rfl (qr_load1 rfl Tryd.underlying9 rfl ((hH.blk 0 rfl).cell rfl)) ?_;simp only [nf]
     refine plan_s2b rfl rfl hH rfl Tryd.underlying9 Tryd.underlying22 Tryd.underlying5 ?_
     clear hH
     intro b29 cap30 cs31 w32 hO33 hH
     (try simp only [nf] at hH ⊢)
     (try simp only [nf, nh, Value.cells, arrB_set] at hH ⊢)
     refine plan_callx rfl rfl hH cf22 (fun w' hH => gnew_calls _ _ w' (OwnC.sl hH 1 rfl hO33) (by simpa using ha)) rfl (fun _ _ _ h => by obtain ⟨_, _, _, hg, _⟩ := h; exact hg) ?_
     clear hH
     intro w34 v35 w36 hH hp37
     obtain ⟨b38, b39, rfl, hg, hfc, hbc, hfx, hbx, hne⟩ := hp37
     replace hH := hH.callnew2 hg hbc hfc hbx hfx hne
     clear hg hfc hbc hfx hbx hne
     (try simp only [nf, nh, Value.cells, arrB_set] at hH ⊢)
     (try simp only [nf])
     refine pm ?_;simp only [nf]
     refine pp rfl rfl (pr_extract rfl rfl) ?_;simp only [nf]
     refine pp rfl rfl (pr_extract rfl rfl) ?_;simp only [nf]
     refine pa (pa ?_);simp only [nf]
     refine plan_nil hH ?_
     clear hH
     intro w40 hH
     refine hK28 _ _ ?_
     (try clear hK28 K28)
     refine wp_seq_k ?_
     intro K41 hK41
     refine wp_seq_k ?_
     intro K42 hK42
     refine wrt [.p 0, .p 1] ?_
     refine pm ?_;simp only [nf]
     refine pp rfl rfl (pr_bin rfl rfl (by first | exact bin_neq_n (n := 0)  | exact bin_neq_i)) ?_;simp only [nf]
     refine plan_nil hH ?_
     clear hH
     intro w43 hH
     refine hK42 _ _ ?_
     (try clear hK42 K42)
     refine wp_cond_false rfl ?_
     refine wp_skip ?_
     refine hK41 _ _ ?_
     (try clear hK41 K41)
     refine wp_seq_k ?_
     intro K44 hK44
     refine wrt [.p 0, .q 1, .p 2, .x 3, .p 4, .p 5, .x 6, .p 7, .p 8, .p 9, .p 10, .p 11] ?_
     refine pm ?_;simp only [nf]
     refine pq rfl rfl (qr_loadW rfl (hH.blk 0 rfl) Tryd.underlying37 rfl sz37 (by simp)) ?_;simp only [nf]
     refine pm ?_;simp only [nf]
     refine plan_callx rfl rfl hH cf29 (fun w' hH => nonce_calls _ _ _ _ w' hb (by omega)) rfl (fun _ _ _ h => by obtain ⟨_, _, _, _, hg, _⟩ := h; exact hg) ?_
     clear hH
     intro w45 v46 w47 hH hp48
     obtain ⟨o49, cap50, cs51, rfl, hg, hO52, hfr⟩ := hp48
     replace hH := hH.callown hg hfr
     clear hg hfr
     (try simp only [nf, nh, Value.cells, arrB_set] at hH ⊢)
     (try simp only [nf])
     refine pm (pm ?_);simp only [nf]
     refine plan_callx rfl rfl hH cf23 (fun w' hH => Seal_calls _ _ _ (hP _) _ _ _ _ _ _ w' (hH.blk 3 rfl) (hH.blk 2 rfl) (OwnC.sl hH 4 rfl hO52) (by rw [nonL_len]; simpa using hb) (hh.chg hH.chg) (hcl.chg hH.chg) (by omega)) rfl (fun _ _ _ h => by obtain ⟨_, _, _, _, hg, _⟩ := h; exact hg) ?_
     clear hH
     intro w53 v54 w55 hH hp56
     obtain ⟨o57, cap58, cs59, rfl, hg, hO60, hfr⟩ := hp56
     replace hH := hH.callown hg hfr
     clear hg hfr
     (try simp only [nf, nh, Value.cells, arrB_set] at hH ⊢)
     (try simp only [nf])
     refine pm ?_;simp only [nf]
     refine pp rfl rfl (pr_extract rfl rfl) ?_;simp only [nf]
     refine pp rfl rfl (pr_extract rfl rfl) ?_;simp only [nf]
     refine pa (pa ?_);simp only [nf]
     refine plan_nil hH ?_
     clear hH
     intro w61 hH
     refine hK44 _ _ ?_
     (try clear hK44 K44)
     refine wp_seq_k ?_
     intro K62 hK62
     refine wp_seq_k ?_
     intro K63 hK63
     refine wrt [.p 0, .p 1] ?_
     refine pm ?_;simp only [nf]
     refine pp rfl rfl (pr_bin rfl rfl (by first | exact bin_neq_n (n := 0)  | exact bin_neq_i)) ?_;simp only [nf]
     refine plan_nil hH ?_
     clear hH
     intro w64 hH
     refine hK63 _ _ ?_
     (try clear hK63 K63)
     refine wp_cond_false rfl ?_
     refine wp_skip ?_
     refine hK62 _ _ ?_
     (try clear hK62 K62)
     refine wp_seq_k ?_
     intro K65 hK65
     refine wrt [.p 0, .x 1, .p 2, .e 3, .p 4] ?_
     refine pm ?_;simp only [nf]
     refine plan_callx rfl rfl hH cf30 (fun w' hH => clone_calls _ _ w' (hh.chg hH.chg) (by first | assumption | (apply List.ne_nil_of_length_pos; omega)) (by first | omega | (simp <;> omega))) rfl (fun _ _ _ h => by obtain ⟨_, _, _, _, hg, _⟩ := h; exact hg) ?_
     clear hH
     intro w66 v67 w68 hH hp69
     obtain ⟨o70, cap71, cs72, rfl, hg, hO73, hfr⟩ := hp69
     replace hH := hH.callown hg hfr
     clear hg hfr
     (try simp only [nf, nh, Value.cells, arrB_set] at hH ⊢)
     (try simp only [nf])
     refine pm ?_;simp only [nf]
     refine plan_append 6 rfl rfl hH rfl hO73 (fun w' hH => ((OwnC.sl hH 5 rfl hO60)).src) rfl rfl Tryd.underlying22 Tryd.underlying22 (.inl ⟨_, rfl⟩) sz5 bz5 ze5 rfl (by first | omega | (rw [sealedL_len]; omega)) (by first | omega | (rw [sealedL_len]; omega)) ?_
     clear hH
     intro o74 cap75 cs76 w77 hO78 hH
     (try simp only [nf] at hH ⊢)
     (try simp only [nf, nh, Value.cells, arrB_set] at hH ⊢)
     try rw [← List.map_append] at hO78
     (try simp only [Nat.zero_add, List.nil_append, List.length_nil] at hO78 ⊢)
     refine pa ?_;simp only [nf]
     refine plan_nil hH ?_
     clear hH
     intro w79 hH
     simp only [sealedL_len] at hO78 ⊢
     obtain ⟨b80, rfl⟩ := OwnC.some hO78 (by omega)
     refine hK65 _ _ ?_
     (try clear hK65 K65)
     refine wp_seq_k ?_
     intro K81 hK81
     refine wrt [.p 0, .p 1, .p 2, .p 3, .p 4] ?_
     refine pm ?_;simp only [nf]
     refine pp rfl rfl (pr_len_Sl (hh.chg hH.chg) rfl Tryd.underlying22) ?_;simp only [nf]
     refine pm ?_;simp only [nf]
     refine pp rfl rfl (pr_bin rfl rfl (by first | exact bin_sub_n (by first | omega | (first | (simp only [List.length_drop, List.length_append, sealedL_len] at *; omega) | (have := lt_u8 (hl.getD 0 0 &&& 3); omega))) (by first | omega | (first | (simp only [List.length_drop, List.length_append, sealedL_len] at *; omega) | (have := lt_u8 (hl.getD 0 0 &&& 3); omega))) | exact bin_sub_i (by first | omega | (first | (simp only [List.length_drop, List.length_append, sealedL_len] at *; omega) | (have := lt_u8 (hl.getD 0 0 &&& 3); omega))) (by first | omega | (first | (simp only [List.length_drop, List.length_append, sealedL_len] at *; omega) | (have := lt_u8 (hl.getD 0 0 &&& 3); omega))))) ?_;simp only [nf]
     refine pa ?_;simp only [nf]
     refine plan_nil hH ?_
     clear hH
     intro w82 hH
     refine hK81 _ _ ?_
     (try clear hK81 K81)
     refine wp_seq_k ?_
     intro K83 hK83
     refine wrt [.p 0, .q 1, .p 2, .p 3, .x 4, .p 5, .p 6, .e 7] ?_
     refine pm ?_;simp only [nf]
     refine pq rfl rfl (qr_loadW rfl (hH.blk 0 rfl) Tryd.underlying37 rfl sz37 (by simp)) ?_;simp only [nf]
     refine pm (pm ?_);simp only [nf]
     refine plan_callx rfl rfl hH cf32 (fun w' hH => mask_calls _ _ _ _ _ _ w' (OwnC.sl hH 6 rfl hO78) hc (by rw [List.length_append, sealedL_len]; omega) (by rw [List.length_append, sealedL_len]; omega)) rfl (fun _ _ _ h => h.choose_spec.2.1) ?_
     clear hH
     intro w84 v85 w86 hH hp87
     obtain ⟨b88, rfl, hg, hfr, hbk⟩ := hp87
     replace hH := hH.callnew hg hbk hfr
     clear hg hfr hbk
     (try simp only [nf, nh, Value.cells, arrB_set] at hH ⊢)
     (try simp only [nf])
     refine pm (pm ?_);simp only [nf]
     refine plan_calle rfl rfl hH cf31 (fun w' hH => hide_calls _ _ _ _ (sealBody a b hl nu cl) (maskL c.data.toList (sealBody a b hl nu cl) (hl.length - sz)) _ (hl.length - sz) sz w' (sealBody_len a b hl nu cl) (hH.blk 6 rfl) hO78 (fun w'' hw => (Sl.of_arr8 (o := 0) (n := 16) (hw.blk (hH.blk 7 rfl) (by simp only [List.mem_singleton]; exact hH.other (i := 6) rfl (j := 7) rfl (by decide) rfl)) (by omega) (by omega)).of_eq (by simp only [Nat.zero_add]; rfl)) (by rw [sealBody_len]; omega) (by rw [sealBody_len]; omega) (by rw [maskL_len]; omega) (by rw [sealBody_len]; omega)) rfl ?_
     clear hH
     intro w89 v90 w91 hH hp92
     obtain ⟨rfl, hg, cs93, hbk, hO94⟩ := hp92
     replace hH := hH.callw 6 rfl hg hbk
     clear hg hbk
     (try simp only [nf, nh, Value.cells, arrB_set] at hH ⊢)
     refine plan_nil hH ?_
     clear hH
     intro w95 hH
     refine hK83 _ _ ?_
     (try clear hK83 K83)
     refine wp_seq_k ?_
     intro K96 hK96
     refine wrt [.p 0, .p 1, .p 2] ?_
     refine pm (pa (pka 0 ?_));simp only [nf]
     refine plan_nil hH ?_
     clear hH
     intro w97 hH
     refine hK96 _ _ ?_
     (try clear hK96 K96)
     refine wp_ret ?_
     (try simp only [Exit.then, Exit.inBlock, ↓reduceIte, Nat.reduceEqDiff])
     refine BP.ret2 rfl rfl rfl ?_
     have hform : (hl.getD 0 0).toNat % 4 = sz - 1 ∧ lowN (hl.drop (hl.length - sz)) sz = nu % 2 ^ (8 * sz) := by
       rw [u8_and3, Nat.one_mul, Nat.and_two_pow_sub_one_eq_mod, List.length_drop] at hf
       rw [show hl.length - (hl.length - sz) = sz by omega] at hf
       exact hf
     have he : sealE a b c hl (sz : Nat) (nu : Nat) cl.length = 0 := by
       unfold sealE
       rw [if_pos hok, hm, hnm, if_pos hform, if_neg (by omega), if_neg (by omega)]
     exact ⟨fun _ => ⟨_, _, _, rfl, hH.chg, (by assumption), hH.owned 6 rfl⟩, fun e h1 h2 => absurd (h1.symm.trans he) h2⟩
theorem docseal_calls (a b c s t : ByteArray) (size number : Int) (w : World) (hl1 : s.size ≤ 100000) (hl2 : t.size ≤ 100000) (hs1 : -9223372036854775808 ≤ size) (hs2 : size ≤ 9223372036854775807) : Ret Tryd.prog 12 #[.agg #[.string a, .string b, .string c], .string s, I64 size, I64 number, .string t] w fun v w' => (sealE a b c s.data.toList size number t.size = 0 → v = .tuple #[.string ⟨(sealOut a b c s.data.toList size.toNat number.toNat t.data.toList).toArray⟩, I64 (0 : Nat)] ∧ Chg [] w w') ∧ ∀ e, sealE a b c s.data.toList size number t.size = e → e ≠ 0 → v = .tuple #[.string ⟨#[]⟩, I64 (e : Nat)] ∧ Chg [] w w' := by
 have hsl : s.data.toList.length = s.size := by simp
 refine Ret.enter Tryd.func12 rfl ?_
 simp only [Tryd.ntmps12, fe, Nat.reduceAdd, Nat.reduceSub]
 have hH := Hp.start [] w
 refine wp_seq_k ?_
 intro K1 hK1
 refine wrt [.x 0, .p 1, .p 2] ?_
 refine plan_box rfl rfl hH rfl ?_
 clear hH
 intro b2 w3 hH
 (try simp only [nf, nh, Value.cells, arrB_set] at hH ⊢)
 refine pa (pka 0 ?_);simp only [nf]
 refine plan_nil hH ?_
 clear hH
 intro w4 hH
 refine hK1 _ _ ?_
 (try clear hK1 K1)
 refine wp_seq_k ?_
 intro K5 hK5
 refine wp_seq_k ?_
 intro K6 hK6
 refine wrt [.p 0, .p 1, .p 2, .p 3, .p 4, .p 5, .p 6, .p 7, .p 8, .p 9, .p 10, .p 11, .p 12, .p 13, .p 14, .q 15, .q 16, .p 17, .p 18, .p 19, .p 20, .p 21, .p 22, .p 23, .p 24, .p 25] ?_
 refine pm ?_;simp only [nf]
 refine pp rfl rfl (pr_bin rfl rfl (by first | exact bin_lss_n (n := 1)  | exact bin_lss_i)) ?_;simp only [nf]
 refine pm ?_;simp only [nf]
 refine plan_pc_f rfl rfl rfl (fun hb => by have hb' := hb; try simp only [gsl] at hb'; rw [hb]; exact pr_move) ?_
 (try simp only [nf])
 refine plan_pc_f rfl rfl rfl (fun hb => by have hb' := hb; try simp only [gsl] at hb'; rw [hb]; exact (pr_bin rfl rfl (by first | exact bin_gtr_n (n := 4)  | exact bin_gtr_i))) ?_
 (try simp only [nf])
 refine pp rfl rfl (pr_pick_or rfl rfl rfl) ?_;simp only [nf]
 refine pm ?_;simp only [nf]
 refine plan_pc_f rfl rfl rfl (fun hb => by have hb' := hb; try simp only [gsl] at hb'; rw [hb]; exact pr_move) ?_
 (try simp only [nf])
 refine plan_pc_f rfl rfl rfl (fun hb => by have hb' := hb; try simp only [gsl] at hb'; rw [hb]; exact (pr_bin rfl rfl (by first | exact bin_lss_n (n := 0)  | exact bin_lss_i))) ?_
 (try simp only [nf])
 refine pp rfl rfl (pr_pick_or rfl rfl rfl) ?_;simp only [nf]
 refine pm ?_;simp only [nf]
 refine plan_pc_f rfl rfl rfl (fun hb => by have hb' := hb; try simp only [gsl] at hb'; rw [hb]; exact pr_move) ?_
 (try simp only [nf])
 refine plan_pc_f rfl rfl rfl (fun hb => by have hb' := hb; try simp only [gsl] at hb'; rw [hb]; exact (pr_bin rfl rfl (by first | exact bin_gtr_n (n := 4611686018427387903)  | exact bin_gtr_i))) ?_
 (try simp only [nf])
 refine pp rfl rfl (pr_pick_or rfl rfl rfl) ?_;simp only [nf]
 refine pm ?_;simp only [nf]
 refine plan_qc_f rfl rfl rfl (fun hb => by have hb' := hb; try simp only [gsl] at hb'; rw [hb]; exact (qr_loadW rfl (hH.blk 0 rfl) Tryd.underlying30 rfl sz30 (by simp))) ?_
 (try simp only [nf])
 refine plan_qc_f rfl rfl rfl (fun hb => by have hb' := hb; try simp only [gsl] at hb'; rw [hb]; exact (qr_call cf24 (fun w' hw => docright_calls _ _ _ w') rfl)) ?_
 (try simp only [nf])
 refine plan_pc_f rfl rfl rfl (fun hb => by have hb' := hb; try simp only [gsl] at hb'; rw [hb]; exact (pr_not rfl)) ?_
 (try simp only [nf])
 refine pp rfl rfl (pr_pick_or rfl rfl rfl) ?_;simp only [nf]
 refine pm ?_;simp only [nf]
 refine plan_pc_f rfl rfl rfl (fun hb => by have hb' := hb; try simp only [gsl] at hb'; rw [hb]; exact pr_move) ?_
 (try simp only [nf])
 refine plan_pc_f rfl rfl rfl (fun hb => by have hb' := hb; try simp only [gsl] at hb'; rw [hb]; exact (pr_len_str rfl Tryd.underlying9)) ?_
 (try simp only [nf])
 refine plan_pc_f rfl rfl rfl (fun hb => by have hb' := hb; try simp only [gsl] at hb'; rw [hb]; exact pr_move) ?_
 (try simp only [nf])
 refine plan_pc_f rfl rfl rfl (fun hb => by have hb' := hb; try simp only [gsl] at hb'; rw [hb]; exact (pr_bin rfl rfl (by first | exact bin_add_n (n := 1) (by first | omega | (first | (have := lt_u8 (s.data.toList.getD 0 0); omega) | (rw [sealed_bsz, str_len]; omega))) | exact bin_add_i (by first | omega | (first | (have := lt_u8 (s.data.toList.getD 0 0); omega) | (rw [sealed_bsz, str_len]; omega))) (by first | omega | (first | (have := lt_u8 (s.data.toList.getD 0 0); omega) | (rw [sealed_bsz, str_len]; omega)))))) ?_
 (try simp only [nf])
 refine plan_pc_f rfl rfl rfl (fun hb => by have hb' := hb; try simp only [gsl] at hb'; rw [hb]; exact (pr_bin rfl rfl (by first | exact bin_lss_n  | exact bin_lss_i))) ?_
 (try simp only [nf])
 refine pp rfl rfl (pr_pick_or rfl rfl rfl) ?_;simp only [nf]
 refine plan_nil hH ?_
 clear hH
 intro w7 hH
 refine hK6 _ _ ?_
 (try clear hK6 K6)
 refine wp_cond_split rfl (fun hc8 => ?_) (fun hc8 => ?_)
 ·
  (try simp only [cnd, gsl] at hc8)
  have hq := hc8
  refine wp_seq_k ?_
  intro K9 hK9
  refine wrt [.p 0, .p 1] ?_
  refine pa (pka 1 ?_);simp only [nf]
  refine plan_nil hH ?_
  clear hH
  intro w10 hH
  refine hK9 _ _ ?_
  (try clear hK9 K9)
  refine wp_ret ?_
  (try simp only [Exit.then, Exit.inBlock, ↓reduceIte, Nat.reduceEqDiff])
  refine BP.ret2 rfl rfl rfl ?_
  have he : sealE a b c s.data.toList size number t.size = 1 := by
    unfold sealE
    rw [if_neg (fun h => by obtain ⟨h1, h2, h3, h4, h5, h6⟩ := h; rcases hq with ((((hq | hq) | hq) | hq) | hq) | hq <;> first | omega | (rw [str_len] at h6; omega) | (rw [h5] at hq; cases hq))]
  exact ⟨fun h => by (rw [he] at h; cases h), fun e h1 _ => by (rw [he] at h1; subst h1; exact ⟨rfl, hH.chg⟩)⟩
 ·
  (try simp only [cnd, gsl] at hc8)
  have hq := hc8
  have hok : 1 ≤ size ∧ size ≤ 4 ∧ 0 ≤ number ∧ number ≤ 4611686018427387903 ∧ rightB a b c = true ∧ size + 1 ≤ s.data.toList.length := ⟨by omega, by omega, by omega, by omega, hq.1.2, by first | omega | (rw [str_len]; omega)⟩
  obtain ⟨ha, hb, hc⟩ := rightB_is hok.2.2.2.2.1
  obtain ⟨sz, rfl⟩ : ∃ k : Nat, size = k := ⟨size.toNat, by omega⟩
  obtain ⟨nu, rfl⟩ : ∃ k : Nat, number = k := ⟨number.toNat, by omega⟩
  have hm : ((sz : Nat) : Int).toNat = sz := by omega
  have hnm : ((nu : Nat) : Int).toNat = nu := by omega
  obtain ⟨hw1, hw2, hw3⟩ := pow_size sz (by omega) (by omega)
  have hsz1 : 1 ≤ sz := by omega
  have hsz4 : sz ≤ 4 := by omega
  refine wp_skip ?_
  refine hK5 _ _ ?_
  (try clear hK5 K5)
  refine wp_seq_k ?_
  intro K11 hK11
  refine wrt [.p 0, .p 1, .p 2, .p 3, .p 4] ?_
  refine pm ?_;simp only [nf]
  refine pp rfl rfl (pr_len_str rfl Tryd.underlying9) ?_;simp only [nf]
  refine pm ?_;simp only [nf]
  refine pp rfl rfl (pr_bin rfl rfl (by first | exact bin_sub_n (by first | omega | (first | (have := lt_u8 (s.data.toList.getD 0 0); omega) | (rw [sealed_bsz, str_len]; omega))) (by first | omega | (first | (have := lt_u8 (s.data.toList.getD 0 0); omega) | (rw [sealed_bsz, str_len]; omega))) | exact bin_sub_i (by first | omega | (first | (have := lt_u8 (s.data.toList.getD 0 0); omega) | (rw [sealed_bsz, str_len]; omega))) (by first | omega | (first | (have := lt_u8 (s.data.toList.getD 0 0); omega) | (rw [sealed_bsz, str_len]; omega))))) ?_;simp only [nf]
  refine pa ?_;simp only [nf]
  refine plan_nil hH ?_
  clear hH
  intro w12 hH
  refine hK11 _ _ ?_
  (try clear hK11 K11)
  refine wp_seq_k ?_
  intro K13 hK13
  refine wp_seq_k ?_
  intro K14 hK14
  refine wrt [.p 0, .p 1, .p 2, .p 3, .p 4, .p 5, .p 6] ?_
  refine pm ?_;simp only [nf]
  refine pp rfl rfl (pr_index_strD (i := 0) rfl rfl Tryd.underlying9 (by first | omega | (first | (have := lt_u8 (s.data.toList.getD 0 0); omega) | (rw [sealed_bsz, str_len]; omega)))) ?_;simp only [nf]
  refine pp rfl rfl (pr_conv rfl (cnv_u8_n _ Tryd.underlying5 Tryd.underlying3)) ?_;simp only [nf]
  refine pp rfl rfl (pr_bin rfl rfl (by first | exact bin_rem_n (n := 4) (by first | omega | (first | (have := lt_u8 (s.data.toList.getD 0 0); omega) | (rw [sealed_bsz, str_len]; omega))))) ?_;simp only [nf]
  refine pm ?_;simp only [nf]
  refine pp rfl rfl (pr_bin rfl rfl (by first | exact bin_sub_n (n := 1) (by first | omega | (first | (have := lt_u8 (s.data.toList.getD 0 0); omega) | (rw [sealed_bsz, str_len]; omega))) (by first | omega | (first | (have := lt_u8 (s.data.toList.getD 0 0); omega) | (rw [sealed_bsz, str_len]; omega))) | exact bin_sub_i (by first | omega | (first | (have := lt_u8 (s.data.toList.getD 0 0); omega) | (rw [sealed_bsz, str_len]; omega))) (by first | omega | (first | (have := lt_u8 (s.data.toList.getD 0 0); omega) | (rw [sealed_bsz, str_len]; omega))))) ?_;simp only [nf]
  refine pp rfl rfl (pr_bin rfl rfl (by first | exact bin_neq_n  | exact bin_neq_i)) ?_;simp only [nf]
  refine plan_nil hH ?_
  clear hH
  intro w15 hH
  refine hK14 _ _ ?_
  (try clear hK14 K14)
  refine wp_cond_split rfl (fun hc16 => ?_) (fun hc16 => ?_)
  ·
   (try simp only [cnd, gsl] at hc16)
   have hf := hc16
   refine wp_seq_k ?_
   intro K17 hK17
   refine wrt [.p 0, .p 1] ?_
   refine pa (pka 2 ?_);simp only [nf]
   refine plan_nil hH ?_
   clear hH
   intro w18 hH
   refine hK17 _ _ ?_
   (try clear hK17 K17)
   refine wp_ret ?_
   (try simp only [Exit.then, Exit.inBlock, ↓reduceIte, Nat.reduceEqDiff])
   refine BP.ret2 rfl rfl rfl ?_
   have he : sealE a b c s.data.toList (sz : Nat) (nu : Nat) t.size = 2 := by
     unfold sealE
     rw [if_pos hok, hm, hnm, if_neg (fun h => hf (by (have := h.1; omega)))]
   exact ⟨fun h => by (rw [he] at h; cases h), fun e h1 _ => by (rw [he] at h1; subst h1; exact ⟨rfl, hH.chg⟩)⟩
  ·
   (try simp only [cnd, gsl] at hc16)
   have hf := hc16
   refine wp_skip ?_
   refine hK13 _ _ ?_
   (try clear hK13 K13)
   refine wp_seq_k ?_
   intro K19 hK19
   refine wp_seq_k ?_
   intro K20 hK20
   refine wrt [.p 0] ?_
   refine pka 0 ?_;simp only [nf]
   refine plan_nil hH ?_
   clear hH
   intro w21 hH
   refine hK20 _ _ ?_
   (try clear hK20 K20)
   refine wp_block ?_
   obtain ⟨kc22, hkc23, hN⟩ := hH.name 0 rfl
   replace hH := hN; clear hN; simp only [List.set_cons_zero, List.set_cons_succ] at hH
   refine wp_loopT [13] [10, 11, 53, 54, 55, 56, 57, 58, 59, 60, 61, 62, 63, 64, 65, 66, 67, 68, 69, 70] (fun (n24 : Nat) (vs : List Value) (w' : World) => ∃ (i : Nat), vs = [I64 (i : Nat)] ∧ Hp [] w w' [(some b2, 30, kc22)] ∧ n24 = sz - i ∧ i ≤ sz ∧ lowN (s.data.toList.drop (s.size - sz)) sz % 2 ^ (8 * i) = nu % 2 ^ (8 * i)) (sz - 0) (by kernel_rfl) ?_ ?_
   ·
    simp only [ga]
    refine ⟨0, rfl, ?_, rfl, ?_, ?_⟩
    ·
     exact hH
    · first | omega | (omega)
    · first | omega | (rw [Nat.mul_zero, Nat.pow_zero, Nat.mod_one, Nat.mod_one])
   clear hH
   intro n24 vs25 w26 hR27 d0
   obtain ⟨i, rfl, hH, hn28, hf29, hlo⟩ := hR27
   simp only [putAll, putD, List.set_cons_zero, List.set_cons_succ, Nat.zero_add, Nat.reduceAdd]
   subst hkc23
   refine wp_seq_k ?_
   intro K30 hK30
   refine wp_seq_k ?_
   intro K31 hK31
   refine wrt [.p 0, .p 1, .p 2] ?_
   refine pm (pm ?_);simp only [nf]
   refine pp rfl rfl (pr_bin rfl rfl (by first | exact bin_lss_n  | exact bin_lss_i)) ?_;simp only [nf]
   refine plan_nil hH ?_
   clear hH
   intro w32 hH
   refine hK31 _ _ ?_
   (try clear hK31 K31)
   refine wp_cond_split rfl (fun hc33 => ?_) (fun hc33 => ?_)
   ·
    (try simp only [cnd, gsl] at hc33)
    refine wp_skip ?_
    refine hK30 _ _ ?_
    (try clear hK30 K30)
    refine wp_seq_k ?_
    intro K34 hK34
    refine wp_block ?_
    refine wp_seq_k ?_
    intro K35 hK35
    refine wrp [.p 0, .p 1, .p 2, .p 3, .p 4, .p 5, .p 6, .p 7, .p 8, .p 9, .p 10, .p 11, .p 12] ?_
    refine pm (pm ?_);simp only [nf]
    refine pp rfl rfl (pr_len_str rfl Tryd.underlying9) ?_;simp only [nf]
    refine pp rfl rfl (pr_bin rfl rfl (by first | exact bin_sub_n (n := 1) (by first | omega | (first | (have := lt_u8 (s.data.toList.getD 0 0); omega) | (rw [sealed_bsz, str_len]; omega))) (by first | omega | (first | (have := lt_u8 (s.data.toList.getD 0 0); omega) | (rw [sealed_bsz, str_len]; omega))) | exact bin_sub_i (by first | omega | (first | (have := lt_u8 (s.data.toList.getD 0 0); omega) | (rw [sealed_bsz, str_len]; omega))) (by first | omega | (first | (have := lt_u8 (s.data.toList.getD 0 0); omega) | (rw [sealed_bsz, str_len]; omega))))) ?_;simp only [nf]
    refine pm ?_;simp only [nf]
    refine pp rfl rfl (pr_bin rfl rfl (by first | exact bin_sub_n (by first | omega | (first | (have := lt_u8 (s.data.toList.getD 0 0); omega) | (rw [sealed_bsz, str_len]; omega))) (by first | omega | (first | (have := lt_u8 (s.data.toList.getD 0 0); omega) | (rw [sealed_bsz, str_len]; omega))) | exact bin_sub_i (by first | omega | (first | (have := lt_u8 (s.data.toList.getD 0 0); omega) | (rw [sealed_bsz, str_len]; omega))) (by first | omega | (first | (have := lt_u8 (s.data.toList.getD 0 0); omega) | (rw [sealed_bsz, str_len]; omega))))) ?_;simp only [nf]
    refine pp rfl rfl (pr_index_strD rfl rfl Tryd.underlying9 (by first | omega | (first | (have := lt_u8 (s.data.toList.getD 0 0); omega) | (rw [sealed_bsz, str_len]; omega)))) ?_;simp only [nf]
    refine pm (pm ?_);simp only [nf]
    refine pp rfl rfl (pr_bin rfl rfl (by first | exact bin_mul_n (m := 8) (by first | omega | (first | (have := lt_u8 (s.data.toList.getD 0 0); omega) | (rw [sealed_bsz, str_len]; omega))) | exact bin_mul_i (by first | omega | (first | (have := lt_u8 (s.data.toList.getD 0 0); omega) | (rw [sealed_bsz, str_len]; omega))) (by first | omega | (first | (have := lt_u8 (s.data.toList.getD 0 0); omega) | (rw [sealed_bsz, str_len]; omega))))) ?_;simp only [nf]
    refine pp rfl rfl (pr_bin rfl rfl (by first | exact bin_shr_n (by first | omega | (first | (have := lt_u8 (s.data.toList.getD 0 0); omega) | (rw [sealed_bsz, str_len]; omega))) | exact bin_shr_i (by first | omega | (first | (have := lt_u8 (s.data.toList.getD 0 0); omega) | (rw [sealed_bsz, str_len]; omega))))) ?_;simp only [nf]
    refine pp rfl rfl (pr_conv rfl (by first | exact cnv_n_u8 Tryd.underlying3 Tryd.underlying5 | exact cnv_i_u8 Tryd.underlying3 Tryd.underlying5)) ?_;simp only [nf]
    refine pp rfl rfl (pr_bin rfl rfl (bin_neq_u8 _ _)) ?_;simp only [nf]
    refine plan_nil hH ?_
    clear hH
    intro w36 hH
    refine hK35 _ _ ?_
    (try clear hK35 K35)
    refine wp_cond_split rfl (fun hc37 => ?_) (fun hc37 => ?_)
    ·
     (try simp only [cnd, gsl] at hc37)
     have hf2 := hc37
     refine wp_seq_k ?_
     intro K38 hK38
     refine wrt [.p 0, .p 1] ?_
     refine pa (pka 2 ?_);simp only [nf]
     refine plan_nil hH ?_
     clear hH
     intro w39 hH
     refine hK38 _ _ ?_
     (try clear hK38 K38)
     refine wp_ret ?_
     (try simp only [Exit.then, Exit.inBlock, ↓reduceIte, Nat.reduceEqDiff])
     refine BP.ret2 rfl rfl rfl ?_
     have hlb := low_byte (s.data.toList.drop (s.size - sz)) sz i (by omega)
     rw [show s.data.toList.drop (s.size - sz) = s.data.toList.drop (s.data.toList.length - sz) by rw [str_len], drop_low _ _ _ (by omega) (by rw [str_len]; omega), str_len] at hlb
     have he : sealE a b c s.data.toList (sz : Nat) (nu : Nat) t.size = 2 := by
       unfold sealE
       rw [if_pos hok, hm, hnm, str_len, if_neg (fun h => low_no (k := i) (n := sz) (A := lowN (s.data.toList.drop (s.size - sz)) sz) (B := nu) (by omega) (by rw [hlb]; exact fun e => hf2 ((ofNat_byte _ _).2 e)) (by rw [Nat.mod_eq_of_lt (lowN_lt _ _)]; exact h.2))]
     exact ⟨fun h => by (rw [he] at h; cases h), fun e h1 _ => by (rw [he] at h1; subst h1; exact ⟨rfl, hH.chg⟩)⟩
    ·
     (try simp only [cnd, gsl] at hc37)
     have hf2 := hc37
     refine wp_skip ?_
     refine hK34 _ _ ?_
     (try clear hK34 K34)
     refine wrt [.p 0, .p 1, .p 2] ?_
     refine pm ?_;simp only [nf]
     refine pp rfl rfl (pr_bin rfl rfl (by first | exact bin_add_n (n := 1) (by first | omega | (first | (have := lt_u8 (s.data.toList.getD 0 0); omega) | (rw [sealed_bsz, str_len]; omega))) | exact bin_add_i (by first | omega | (first | (have := lt_u8 (s.data.toList.getD 0 0); omega) | (rw [sealed_bsz, str_len]; omega))) (by first | omega | (first | (have := lt_u8 (s.data.toList.getD 0 0); omega) | (rw [sealed_bsz, str_len]; omega))))) ?_;simp only [nf]
     refine pa ?_;simp only [nf]
     refine plan_nil hH ?_
     clear hH
     intro w40 hH
     (try simp only [Exit.then, Exit.inBlock, ↓reduceIte, Nat.reduceEqDiff])
     refine ⟨sz - (i + 1), ?_, _, rfl, by kernel_rfl, ?_⟩
     · first | omega | (omega)
     simp only [ga]
     refine ⟨i + 1, rfl, ?_, rfl, ?_, ?_⟩
     ·
      exact hH
     · first | omega | (omega)
     · first | omega | (have hlb := low_byte (s.data.toList.drop (s.size - sz)) sz i (by omega); rw [show s.data.toList.drop (s.size - sz) = s.data.toList.drop (s.data.toList.length - sz) by rw [str_len], drop_low _ _ _ (by omega) (by rw [str_len]; omega), str_len] at hlb; exact low_step hlo (by rw [hlb]; exact (ofNat_byte _ _).1 hf2))
   ·
    (try simp only [cnd, gsl] at hc33)
    refine wp_exit ?_
    (try simp only [Exit.then, Exit.inBlock, ↓reduceIte, Nat.reduceEqDiff])
    refine hK19 _ _ ?_
    (try clear hK19 K19)
    refine wp_seq_k ?_
    intro K41 hK41
    refine wp_seq_k ?_
    intro K42 hK42
    refine wrt [.p 0, .p 1, .p 2, .p 3, .p 4] ?_
    refine pm ?_;simp only [nf]
    refine pp rfl rfl (pr_len_str rfl Tryd.underlying9) ?_;simp only [nf]
    refine pm ?_;simp only [nf]
    refine pp rfl rfl (pr_bin rfl rfl (by first | exact bin_sub_n (m := 4) (by first | omega | (first | (have := lt_u8 (s.data.toList.getD 0 0); omega) | (rw [sealed_bsz, str_len]; omega))) (by first | omega | (first | (have := lt_u8 (s.data.toList.getD 0 0); omega) | (rw [sealed_bsz, str_len]; omega))) | exact bin_sub_i (by first | omega | (first | (have := lt_u8 (s.data.toList.getD 0 0); omega) | (rw [sealed_bsz, str_len]; omega))) (by first | omega | (first | (have := lt_u8 (s.data.toList.getD 0 0); omega) | (rw [sealed_bsz, str_len]; omega))))) ?_;simp only [nf]
    refine pp rfl rfl (pr_bin rfl rfl (by first | exact bin_lss_n  | exact bin_lss_i)) ?_;simp only [nf]
    refine plan_nil hH ?_
    clear hH
    intro w43 hH
    refine hK42 _ _ ?_
    (try clear hK42 K42)
    refine wp_cond_split rfl (fun hc44 => ?_) (fun hc44 => ?_)
    ·
     (try simp only [cnd, gsl] at hc44)
     have ht := hc44
     refine wp_seq_k ?_
     intro K45 hK45
     refine wrt [.p 0, .p 1] ?_
     refine pa (pka 3 ?_);simp only [nf]
     refine plan_nil hH ?_
     clear hH
     intro w46 hH
     refine hK45 _ _ ?_
     (try clear hK45 K45)
     refine wp_ret ?_
     (try simp only [Exit.then, Exit.inBlock, ↓reduceIte, Nat.reduceEqDiff])
     refine BP.ret2 rfl rfl rfl ?_
     obtain rfl : i = sz := by omega
     have hform : (s.data.toList.getD 0 0).toNat % 4 = i - 1 ∧ lowN (s.data.toList.drop (s.data.toList.length - i)) i = nu % 2 ^ (8 * i) := ⟨by omega, by rw [Nat.mod_eq_of_lt (lowN_lt _ _)] at hlo; rw [str_len]; exact hlo⟩
     have he : sealE a b c s.data.toList (i : Nat) (nu : Nat) t.size = 3 := by
       unfold sealE
       rw [if_pos hok, hm, hnm, if_pos hform, if_pos (by omega)]
     exact ⟨fun h => by (rw [he] at h; cases h), fun e h1 _ => by (rw [he] at h1; subst h1; exact ⟨rfl, hH.chg⟩)⟩
    ·
     (try simp only [cnd, gsl] at hc44)
     have ht := hc44
     refine wp_skip ?_
     refine hK41 _ _ ?_
     (try clear hK41 K41)
     refine wp_seq_k ?_
     intro K47 hK47
     refine wp_seq_k ?_
     intro K48 hK48
     refine wrt [.p 0, .p 1, .p 2] ?_
     refine pm ?_;simp only [nf]
     refine pp rfl rfl (pr_len_str rfl Tryd.underlying9) ?_;simp only [nf]
     refine pp rfl rfl (pr_bin rfl rfl (by first | exact bin_gtr_n (n := 65000)  | exact bin_gtr_i)) ?_;simp only [nf]
     refine plan_nil hH ?_
     clear hH
     intro w49 hH
     refine hK48 _ _ ?_
     (try clear hK48 K48)
     refine wp_cond_split rfl (fun hc50 => ?_) (fun hc50 => ?_)
     ·
      (try simp only [cnd, gsl] at hc50)
      have hbg := hc50
      refine wp_seq_k ?_
      intro K51 hK51
      refine wrt [.p 0, .p 1] ?_
      refine pa (pka 5 ?_);simp only [nf]
      refine plan_nil hH ?_
      clear hH
      intro w52 hH
      refine hK51 _ _ ?_
      (try clear hK51 K51)
      refine wp_ret ?_
      (try simp only [Exit.then, Exit.inBlock, ↓reduceIte, Nat.reduceEqDiff])
      refine BP.ret2 rfl rfl rfl ?_
      obtain rfl : i = sz := by omega
      have hform : (s.data.toList.getD 0 0).toNat % 4 = i - 1 ∧ lowN (s.data.toList.drop (s.data.toList.length - i)) i = nu % 2 ^ (8 * i) := ⟨by omega, by rw [Nat.mod_eq_of_lt (lowN_lt _ _)] at hlo; rw [str_len]; exact hlo⟩
      have he : sealE a b c s.data.toList (i : Nat) (nu : Nat) t.size = 5 := by
        unfold sealE
        rw [if_pos hok, hm, hnm, if_pos hform, if_neg (by omega), if_pos (by omega)]
      exact ⟨fun h => by (rw [he] at h; cases h), fun e h1 _ => by (rw [he] at h1; subst h1; exact ⟨rfl, hH.chg⟩)⟩
     ·
      (try simp only [cnd, gsl] at hc50)
      have hbg := hc50
      refine wp_skip ?_
      refine hK47 _ _ ?_
      (try clear hK47 K47)
      refine wp_seq_k ?_
      intro K53 hK53
      refine wrp [.p 0, .p 2, .p 4, .p 6, .p 7, .q 1, .q 3, .q 5, .q 8, .p 9, .p 10, .p 11, .p 12, .p 13] ?_
      refine pp rfl rfl (pr_fieldAddr 0 rfl Tryd.underlying30 rfl rfl sz9) ?_;simp only [nf]
      refine pp rfl rfl (pr_fieldAddr 1 rfl Tryd.underlying30 rfl rfl sz9) ?_;simp only [nf]
      refine pm (pm (pm ?_));simp only [nf]
      refine pq rfl rfl (qr_load1 rfl Tryd.underlying9 rfl ((hH.blk 0 rfl).cell rfl)) ?_;simp only [nf]
      refine pq rfl rfl (qr_load1 rfl Tryd.underlying9 rfl ((hH.blk 0 rfl).cell rfl)) ?_;simp only [nf]
      refine pq rfl rfl (qr_call cf25 (fun w' hw => docnonce_calls _ _ w' hb (by omega)) rfl) ?_;simp only [nf]
      refine pq rfl rfl (qr_call cf21 (fun w' hw => refSeal_calls a ⟨(nonL b.data.toList nu 8).toArray⟩ s t w' (by simpa using ha) (by rw [bsz, nonL_len]; simpa using hb) (by omega) (by omega)) rfl) ?_;simp only [nf]
      refine pm ?_;simp only [nf]
      refine pp rfl rfl (pr_extract rfl rfl) ?_;simp only [nf]
      refine pp rfl rfl (pr_extract rfl rfl) ?_;simp only [nf]
      refine pa (pa ?_);simp only [nf]
      refine plan_nil hH ?_
      clear hH
      intro w54 hH
      refine hK53 _ _ ?_
      (try clear hK53 K53)
      refine wp_seq_k ?_
      intro K55 hK55
      refine wrt [.q 0, .p 1, .p 2, .p 3, .p 4, .p 5, .q 6, .p 7, .p 8] ?_
      refine pq rfl rfl (qr_loadW rfl (hH.blk 0 rfl) Tryd.underlying30 rfl sz30 (by simp)) ?_;simp only [nf]
      refine pm (pm ?_);simp only [nf]
      refine pp rfl rfl (pr_bin rfl rfl (bin_add_s (by first | omega | (first | (have := lt_u8 (s.data.toList.getD 0 0); omega) | (rw [sealed_bsz, str_len]; omega))))) ?_;simp only [nf]
      refine pm (pm ?_);simp only [nf]
      refine pq rfl rfl (qr_call cf26 (fun w' hw => masked_calls a b c (s ++ ⟨(sealedL (kexp fun i => a.data.toList.getD i 0) (hP (kexp fun i => a.data.toList.getD i 0)) (nonL b.data.toList nu 8) s.data.toList t.data.toList).toArray⟩) (s.size - sz) sz w' hc (by rw [ByteArray.size_append, sealed_bsz, str_len]; omega) (by omega) (by rw [ByteArray.size_append, sealed_bsz, str_len]; omega)) rfl) ?_;simp only [nf]
      refine pa (pka 0 ?_);simp only [nf]
      refine plan_nil hH ?_
      clear hH
      intro w56 hH
      refine hK55 _ _ ?_
      (try clear hK55 K55)
      refine wp_ret ?_
      (try simp only [Exit.then, Exit.inBlock, ↓reduceIte, Nat.reduceEqDiff])
      refine BP.ret2 rfl rfl rfl ?_
      obtain rfl : i = sz := by omega
      have hform : (s.data.toList.getD 0 0).toNat % 4 = i - 1 ∧ lowN (s.data.toList.drop (s.data.toList.length - i)) i = nu % 2 ^ (8 * i) := ⟨by omega, by rw [Nat.mod_eq_of_lt (lowN_lt _ _)] at hlo; rw [str_len]; exact hlo⟩
      have he : sealE a b c s.data.toList (i : Nat) (nu : Nat) t.size = 0 := by
        unfold sealE
        rw [if_pos hok, hm, hnm, if_pos hform, if_neg (by omega), if_neg (by omega)]
      refine ⟨fun _ => ⟨?_, hH.chg⟩, fun e h1 h2 => absurd (h1.symm.trans he) h2⟩
      have hx : (hideL (s ++ ⟨(sealedL (kexp fun i => a.data.toList.getD i 0) (hP (kexp fun i => a.data.toList.getD i 0)) (nonL b.data.toList nu 8) s.data.toList t.data.toList).toArray⟩).data.toList (maskL c.data.toList (s ++ ⟨(sealedL (kexp fun i => a.data.toList.getD i 0) (hP (kexp fun i => a.data.toList.getD i 0)) (nonL b.data.toList nu 8) s.data.toList t.data.toList).toArray⟩).data.toList (s.size - i)) (s.size - i) i) = sealOut a b c s.data.toList i nu t.data.toList := by
        rw [str_app]; rfl
      rw [hm, hnm, ← hx]; rfl
end Go.Proofs.YtmoaddicejohgaaDoor
set_option linter.unusedSimpArgs false
set_option linter.unusedVariables false
set_option maxRecDepth 100000
set_option maxHeartbeats 4000000
namespace Go.Proofs.YtmoaddicejohgaaDoor
open Go
open List (getD_cons_zero getD_cons_succ set_cons_zero set_cons_succ)
def opSz (c : ByteArray) (l : List UInt8) (p : Nat) : Nat := ((l.getD 0 0 ^^^ (maskL c.data.toList l p).getD 0 0) &&& 3).toNat + 1
def opBare (c : ByteArray) (l : List UInt8) (p : Nat) : List UInt8 := hideL l (maskL c.data.toList l p) p (opSz c l p)
def opNum (c : ByteArray) (l : List UInt8) (p e : Nat) : Nat := wholeN (lowN ((opBare c l p).drop p) (opSz c l p)) (opSz c l p) e
def opHead (c : ByteArray) (l : List UInt8) (p : Nat) : List UInt8 := (opBare c l p).take (p + opSz c l p)
def opRest (c : ByteArray) (l : List UInt8) (p : Nat) : List UInt8 := (opBare c l p).drop (p + opSz c l p)
def opBody (c : ByteArray) (l : List UInt8) (p : Nat) : List UInt8 := (opRest c l p).take ((opRest c l p).length - 16)
def opOk (a b c : ByteArray) (l : List UInt8) (p e : Nat) : Prop :=
  sealL (keyF16 a) (hP (keyF16 a)) (nonL b.data.toList (opNum c l p e) 8) (opHead c l p) (opBody c l p) = (opRest c l p).drop ((opRest c l p).length - 16)
instance (a b c : ByteArray) (l : List UInt8) (p e : Nat) : Decidable (opOk a b c l p e) := inferInstanceAs (Decidable (_ = _))
def opOut (a b c : ByteArray) (l : List UInt8) (p e : Nat) : List UInt8 := hidL (keyF16 a) (nonL b.data.toList (opNum c l p e) 8) (opBody c l p)
def openE (a b c : ByteArray) (l : List UInt8) (p e : Int) : Nat :=
  if 1 ≤ p ∧ 0 ≤ e ∧ e ≤ 4611686018427387903 ∧ rightB a b c = true then
    if p + 20 ≤ l.length then (if opOk a b c l p.toNat e.toNat then 0 else 4) else 3
  else 1
theorem opSz_lo (c : ByteArray) (l : List UInt8) (p : Nat) : 1 ≤ opSz c l p ∧ opSz c l p ≤ 4 := by
  unfold opSz; rw [u8_and3]; omega
theorem opBare_len (c : ByteArray) (l : List UInt8) (p : Nat) : (opBare c l p).length = l.length := hideL_len ..
theorem opRest_len (c : ByteArray) (l : List UInt8) (p : Nat) : (opRest c l p).length = l.length - (p + opSz c l p) := by
  unfold opRest; rw [List.length_drop, opBare_len]
theorem lowN_take (l : List UInt8) : ∀ n m, n ≤ m → lowN (l.take m) n = lowN l n
  | 0, _, _ => rfl
  | n + 1, m, h => by
    rw [lowN_succ, lowN_succ, lowN_take l n m (by omega)]
    simp only [List.getD, List.getElem?_take]
    rw [if_pos (by omega)]
theorem low_cut (l : List UInt8) (p n : Nat) (h : p + n ≤ l.length) : lowN ((l.drop p).take (p + n - p)) ((l.drop p).take (p + n - p)).length = lowN (l.drop p) n := by
  rw [Nat.add_sub_cancel_left, List.length_take, List.length_drop, Nat.min_eq_left (by omega), lowN_take _ _ _ (Nat.le_refl _)]
theorem whole_lt (low size e : Nat) (h1 : 1 ≤ size) (h4 : size ≤ 4) (hl : low < 2 ^ (8 * size)) (he : e ≤ 4611686018427387903) : wholeN low size e < 9223372036854775808 := by
  obtain ⟨hw1, hw2, hw3⟩ := pow_size size h1 h4
  have hdm : e / 2 ^ (8 * size) * 2 ^ (8 * size) ≤ e := Nat.div_mul_le_self _ _
  unfold wholeN
  split
  · omega
  · split <;> omega
theorem gopen_calls (a b c : ByteArray) (bv : Value) (l : List UInt8) (p e : Int) (w : World) (hv : Sl w bv l) (hl : l.length ≤ 65000) (hp1 : -9223372036854775808 ≤ p) (hp2 : p ≤ 9223372036854775807) : Ret Tryd.prog 16 #[.agg #[.string a, .string b, .string c], bv, I64 p, I64 e] w fun v w' => (openE a b c l p e = 0 → ∃ o1 cs1 o2 cap2 cs2, v = .tuple #[ownO o1 0 (p.toNat + opSz c l p.toNat) (p.toNat + opSz c l p.toNat), I64 (opNum c l p.toNat e.toNat : Nat), own o2 ((opRest c l p.toNat).length - 16) cap2, I64 (0 : Nat)] ∧ Hp [] w w' [(o1, 5, cs1), (o2, 5, cs2)] ∧ OwnD o1 0 (p.toNat + opSz c l p.toNat) (p.toNat + opSz c l p.toNat) cs1 (opHead c l p.toNat) ∧ OwnC o2 ((opRest c l p.toNat).length - 16) cap2 1 cs2 ((opOut a b c l p.toNat e.toNat).map V8)) ∧ ∀ k, openE a b c l p e = k → k ≠ 0 → v = .tuple #[.slice none 0 0, I64 (0 : Nat), .slice none 0 0, I64 (k : Nat)] ∧ Chg [] w w' := by
 refine Ret.enter Tryd.func16 rfl ?_
 simp only [Tryd.ntmps16, fe, Nat.reduceAdd, Nat.reduceSub]
 have hH := Hp.start [] w
 refine wp_seq_k ?_
 intro K1 hK1
 refine wrt [.x 0, .p 1, .p 2, .p 3, .p 4] ?_
 refine plan_box rfl rfl hH rfl ?_
 clear hH
 intro b2 w3 hH
 (try simp only [nf, nh, Value.cells, arrB_set] at hH ⊢)
 refine pa (pka 0 (pa (pka 0 ?_)));simp only [nf]
 refine plan_nil hH ?_
 clear hH
 intro w4 hH
 refine hK1 _ _ ?_
 (try clear hK1 K1)
 refine wp_seq_k ?_
 intro K5 hK5
 refine wp_block ?_
 refine wp_seq_k ?_
 intro K6 hK6
 refine wrt [.p 0, .p 1, .p 2, .p 3, .p 4, .p 5, .p 6, .p 7, .p 8, .p 9, .p 10, .q 11, .q 12, .p 13, .p 14, .p 15] ?_
 refine pm ?_;simp only [nf]
 refine pp rfl rfl (pr_bin rfl rfl (by first | exact bin_lss_n (n := 1)  | exact bin_lss_i)) ?_;simp only [nf]
 refine pm ?_;simp only [nf]
 refine plan_pc_f rfl rfl rfl (fun hb => by have hb' := hb; try simp only [gsl] at hb'; rw [hb]; exact pr_move) ?_
 (try simp only [nf])
 refine plan_pc_f rfl rfl rfl (fun hb => by have hb' := hb; try simp only [gsl] at hb'; rw [hb]; exact (pr_bin rfl rfl (by first | exact bin_lss_n (n := 0)  | exact bin_lss_i))) ?_
 (try simp only [nf])
 refine pp rfl rfl (pr_pick_or rfl rfl rfl) ?_;simp only [nf]
 refine pm ?_;simp only [nf]
 refine plan_pc_f rfl rfl rfl (fun hb => by have hb' := hb; try simp only [gsl] at hb'; rw [hb]; exact pr_move) ?_
 (try simp only [nf])
 refine plan_pc_f rfl rfl rfl (fun hb => by have hb' := hb; try simp only [gsl] at hb'; rw [hb]; exact (pr_bin rfl rfl (by first | exact bin_gtr_n (n := 4611686018427387903)  | exact bin_gtr_i))) ?_
 (try simp only [nf])
 refine pp rfl rfl (pr_pick_or rfl rfl rfl) ?_;simp only [nf]
 refine pm ?_;simp only [nf]
 refine plan_qc_f rfl rfl rfl (fun hb => by have hb' := hb; try simp only [gsl] at hb'; rw [hb]; exact (qr_loadW rfl (hH.blk 0 rfl) Tryd.underlying37 rfl sz37 (by simp))) ?_
 (try simp only [nf])
 refine plan_qc_f rfl rfl rfl (fun hb => by have hb' := hb; try simp only [gsl] at hb'; rw [hb]; exact (qr_call cf27 (fun w' hw => right_calls _ _ _ w') rfl)) ?_
 (try simp only [nf])
 refine plan_pc_f rfl rfl rfl (fun hb => by have hb' := hb; try simp only [gsl] at hb'; rw [hb]; exact (pr_not rfl)) ?_
 (try simp only [nf])
 refine pp rfl rfl (pr_pick_or rfl rfl rfl) ?_;simp only [nf]
 refine pa ?_;simp only [nf]
 refine plan_nil hH ?_
 clear hH
 intro w7 hH
 refine hK6 _ _ ?_
 (try clear hK6 K6)
 refine wp_cond_split rfl (fun hc8 => ?_) (fun hc8 => ?_)
 ·
  (try simp only [cnd, gsl] at hc8)
  have hq := hc8
  refine wp_seq_k ?_
  intro K9 hK9
  refine wrt [.p 0, .p 1, .p 2, .p 3] ?_
  refine pa (pka 0 (pa (pka 1 ?_)));simp only [nf]
  refine plan_nil hH ?_
  clear hH
  intro w10 hH
  refine hK9 _ _ ?_
  (try clear hK9 K9)
  refine wp_ret ?_
  (try simp only [Exit.then, Exit.inBlock, ↓reduceIte, Nat.reduceEqDiff])
  refine BP.ret4 rfl rfl rfl rfl rfl ?_
  have he : openE a b c l p e = 1 := by
    unfold openE
    rw [if_neg (fun h => by (obtain ⟨h1, h2, h3, h5⟩ := h; rcases hq with ((hq | hq) | hq) | hq <;> first | omega | (rw [h5] at hq; cases hq)))]
  exact ⟨fun h => by (rw [he] at h; cases h), fun k h1 _ => by (rw [he] at h1; subst h1; exact ⟨rfl, hH.chg⟩)⟩
 ·
  (try simp only [cnd, gsl] at hc8)
  have hq := hc8
  have hok : 1 ≤ p ∧ 0 ≤ e ∧ e ≤ 4611686018427387903 ∧ rightB a b c = true := ⟨by omega, by omega, by omega, hq.2⟩
  obtain ⟨ha, hb, hc⟩ := rightB_is hok.2.2.2
  obtain ⟨pn, rfl⟩ : ∃ k : Nat, p = k := ⟨p.toNat, by omega⟩
  obtain ⟨en, rfl⟩ : ∃ k : Nat, e = k := ⟨e.toNat, by omega⟩
  have hm : ((pn : Nat) : Int).toNat = pn := by omega
  have hnm : ((en : Nat) : Int).toNat = en := by omega
  refine wp_seq_k ?_
  intro K11 hK11
  refine wrt [.p 0, .p 1, .p 2, .p 3, .p 4, .p 5, .p 6, .p 7, .p 8, .p 9, .p 10, .p 11] ?_
  refine pm (pm ?_);simp only [nf]
  refine pp rfl rfl (pr_len_Sl (hv.chg hH.chg) rfl Tryd.underlying22) ?_;simp only [nf]
  refine pp rfl rfl (pr_bin rfl rfl (by first | exact bin_gtr_n  | exact bin_gtr_i)) ?_;simp only [nf]
  refine pm ?_;simp only [nf]
  refine plan_pc_f rfl rfl rfl (fun hb => by have hb' := hb; try simp only [gsl] at hb'; rw [hb]; exact pr_move) ?_
  (try simp only [nf])
  refine plan_pc_f rfl rfl rfl (fun hb => by have hb' := hb; try simp only [gsl] at hb'; rw [hb]; exact (pr_len_Sl (hv.chg hH.chg) rfl Tryd.underlying22)) ?_
  (try simp only [nf])
  refine plan_pc_f rfl rfl rfl (fun hb => by have hb' := hb; try simp only [gsl] at hb'; rw [hb]; exact pr_move) ?_
  (try simp only [nf])
  refine plan_pc_f rfl rfl rfl (fun hb => by have hb' := hb; try simp only [gsl] at hb'; rw [hb]; exact (pr_bin rfl rfl (by first | exact bin_sub_n (by first | omega | (first | (simp only [hideL_len, List.length_take, List.length_drop] at *; omega) | (rw [hbl]; omega) | (have := lt_u8 ((l.getD 0 0 ^^^ maskF c.data.toList l pn 0) &&& 3); omega))) (by first | omega | (first | (simp only [hideL_len, List.length_take, List.length_drop] at *; omega) | (rw [hbl]; omega) | (have := lt_u8 ((l.getD 0 0 ^^^ maskF c.data.toList l pn 0) &&& 3); omega))) | exact bin_sub_i (by first | omega | (first | (simp only [hideL_len, List.length_take, List.length_drop] at *; omega) | (rw [hbl]; omega) | (have := lt_u8 ((l.getD 0 0 ^^^ maskF c.data.toList l pn 0) &&& 3); omega))) (by first | omega | (first | (simp only [hideL_len, List.length_take, List.length_drop] at *; omega) | (rw [hbl]; omega) | (have := lt_u8 ((l.getD 0 0 ^^^ maskF c.data.toList l pn 0) &&& 3); omega)))))) ?_
  (try simp only [nf])
  refine plan_pc_f rfl rfl rfl (fun hb => by have hb' := hb; try simp only [gsl] at hb'; rw [hb]; exact (pr_bin rfl rfl (by first | exact bin_lss_n (n := 20)  | exact bin_lss_i))) ?_
  (try simp only [nf])
  refine pp rfl rfl (pr_pick_or rfl rfl rfl) ?_;simp only [nf]
  refine pa ?_;simp only [nf]
  refine plan_nil hH ?_
  clear hH
  intro w12 hH
  refine hK11 _ _ ?_
  (try clear hK11 K11)
  refine wp_cond_split rfl (fun hc13 => ?_) (fun hc13 => ?_)
  ·
   (try simp only [cnd, gsl] at hc13)
   have ht := hc13
   refine wp_seq_k ?_
   intro K14 hK14
   refine wrt [.p 0, .p 1, .p 2, .p 3] ?_
   refine pa (pka 0 (pa (pka 3 ?_)));simp only [nf]
   refine plan_nil hH ?_
   clear hH
   intro w15 hH
   refine hK14 _ _ ?_
   (try clear hK14 K14)
   refine wp_ret ?_
   (try simp only [Exit.then, Exit.inBlock, ↓reduceIte, Nat.reduceEqDiff])
   refine BP.ret4 rfl rfl rfl rfl rfl ?_
   have he : openE a b c l (pn : Nat) (en : Nat) = 3 := by
     unfold openE
     rw [if_pos hok, if_neg (by omega)]
   exact ⟨fun h => by (rw [he] at h; cases h), fun k h1 _ => by (rw [he] at h1; subst h1; exact ⟨rfl, hH.chg⟩)⟩
  ·
   (try simp only [cnd, gsl] at hc13)
   have ht := hc13
   have hlen : pn + 20 ≤ l.length := by omega
   obtain ⟨hz1, hz2⟩ := opSz_lo c l pn
   obtain ⟨hw1, hw2, hw3⟩ := pow_size (opSz c l pn) hz1 hz2
   have hbl := opBare_len c l pn
   have hrl := opRest_len c l pn
   have hlw := lowN_lt ((opBare c l pn).drop pn) (opSz c l pn)
   have hnb : opNum c l pn en < 9223372036854775808 := whole_lt _ _ _ hz1 hz2 hlw (by omega)
   have hcut := low_cut (opBare c l pn) pn (opSz c l pn) (by omega)
   refine wp_skip ?_
   refine hK5 _ _ ?_
   (try clear hK5 K5)
   refine wp_seq_k ?_
   intro K16 hK16
   refine wrt [.p 0, .x 1, .p 2] ?_
   refine pm ?_;simp only [nf]
   refine plan_callx rfl rfl hH cf30 (fun w' hH => clone_calls _ _ w' (hv.chg hH.chg) (by apply List.ne_nil_of_length_pos; omega) (by omega)) rfl (fun _ _ _ h => by obtain ⟨_, _, _, _, hg, _⟩ := h; exact hg) ?_
   clear hH
   intro w17 v18 w19 hH hp20
   obtain ⟨o21, cap22, cs23, rfl, hg, hO24, hfr⟩ := hp20
   replace hH := hH.callown hg hfr
   clear hg hfr
   (try simp only [nf, nh, Value.cells, arrB_set] at hH ⊢)
   (try simp only [nf])
   refine pa ?_;simp only [nf]
   refine plan_nil hH ?_
   clear hH
   intro w25 hH
   obtain ⟨b26, rfl⟩ := OwnC.some hO24 (by omega)
   refine hK16 _ _ ?_
   (try clear hK16 K16)
   refine wp_seq_k ?_
   intro K27 hK27
   refine wrt [.q 0, .p 1, .p 2, .x 3, .p 4] ?_
   refine pq rfl rfl (qr_loadW rfl (hH.blk 0 rfl) Tryd.underlying37 rfl sz37 (by simp)) ?_;simp only [nf]
   refine pm (pm ?_);simp only [nf]
   refine plan_callx rfl rfl hH cf32 (fun w' hH => mask_calls _ _ _ _ _ _ w' (OwnC.sl hH 1 rfl hO24) hc hlen (by omega)) rfl (fun _ _ _ h => h.choose_spec.2.1) ?_
   clear hH
   intro w28 v29 w30 hH hp31
   obtain ⟨b32, rfl, hg, hfr, hbk⟩ := hp31
   replace hH := hH.callnew hg hbk hfr
   clear hg hfr hbk
   (try simp only [nf, nh, Value.cells, arrB_set] at hH ⊢)
   (try simp only [nf])
   refine pa ?_;simp only [nf]
   refine plan_nil hH ?_
   clear hH
   intro w33 hH
   refine hK27 _ _ ?_
   (try clear hK27 K27)
   refine wp_seq_k ?_
   intro K34 hK34
   refine wrp [.p 0, .p 1, .p 3, .p 4, .q 2, .q 5, .p 6, .p 7, .p 8, .p 9, .p 10] ?_
   refine pm ?_;simp only [nf]
   refine pp rfl rfl (pr_idx_Sl (i := 0) (OwnC.sl hH 1 rfl hO24) rfl rfl Tryd.underlying22 sz5 (by first | omega | (first | (simp only [hideL_len, List.length_take, List.length_drop] at *; omega) | (rw [hbl]; omega) | (have := lt_u8 ((l.getD 0 0 ^^^ maskF c.data.toList l pn 0) &&& 3); omega)))) ?_;simp only [nf]
   refine pm ?_;simp only [nf]
   refine pp rfl rfl (pr_idxS1 (i := 0) rfl rfl Tryd.underlying22 sz5 (by first | omega | (first | (simp only [hideL_len, List.length_take, List.length_drop] at *; omega) | (rw [hbl]; omega) | (have := lt_u8 ((l.getD 0 0 ^^^ maskF c.data.toList l pn 0) &&& 3); omega)))) ?_;simp only [nf]
   refine pq rfl rfl (qr_load1 rfl Tryd.underlying5 rfl (Sl.cell (i := 0) (OwnC.sl hH 1 rfl hO24) (by first | omega | (first | (simp only [hideL_len, List.length_take, List.length_drop] at *; omega) | (rw [hbl]; omega) | (have := lt_u8 ((l.getD 0 0 ^^^ maskF c.data.toList l pn 0) &&& 3); omega))))) ?_;simp only [nf]
   refine pq rfl rfl (qr_load1 rfl Tryd.underlying5 rfl ((hH.blk 2 rfl).cell (arr8_get (by first | omega | (first | (simp only [hideL_len, List.length_take, List.length_drop] at *; omega) | (rw [hbl]; omega) | (have := lt_u8 ((l.getD 0 0 ^^^ maskF c.data.toList l pn 0) &&& 3); omega)))))) ?_;simp only [nf]
   refine pp rfl rfl (pr_bin rfl rfl (bin_xor_u8 _ _)) ?_;simp only [nf]
   refine pp rfl rfl (pr_bin rfl rfl (bin_and_u8 _ 3)) ?_;simp only [nf]
   refine pp rfl rfl (pr_conv rfl (cnv_u8_n _ Tryd.underlying5 Tryd.underlying3)) ?_;simp only [nf]
   refine pp rfl rfl (pr_bin rfl rfl (by first | exact bin_add_n (n := 1) (by first | omega | (first | (simp only [hideL_len, List.length_take, List.length_drop] at *; omega) | (rw [hbl]; omega) | (have := lt_u8 ((l.getD 0 0 ^^^ maskF c.data.toList l pn 0) &&& 3); omega))) | exact bin_add_i (by first | omega | (first | (simp only [hideL_len, List.length_take, List.length_drop] at *; omega) | (rw [hbl]; omega) | (have := lt_u8 ((l.getD 0 0 ^^^ maskF c.data.toList l pn 0) &&& 3); omega))) (by first | omega | (first | (simp only [hideL_len, List.length_take, List.length_drop] at *; omega) | (rw [hbl]; omega) | (have := lt_u8 ((l.getD 0 0 ^^^ maskF c.data.toList l pn 0) &&& 3); omega))))) ?_;simp only [nf]
   refine pa ?_;simp only [nf]
   refine plan_nil hH ?_
   clear hH
   intro w35 hH
   have hsz : ((l.getD 0 0 ^^^ maskF c.data.toList l pn 0) &&& 3).toNat + 1 = opSz c l pn := by unfold opSz; rw [show (maskL c.data.toList l pn).getD 0 0 = maskF c.data.toList l pn 0 from cut16 _ (by decide)]
   rw [hsz]
   refine hK34 _ _ ?_
   (try clear hK34 K34)
   refine wp_seq_k ?_
   intro K36 hK36
   refine wrt [.p 0, .p 1, .p 2, .p 3, .e 4] ?_
   refine pm (pm (pm (pm ?_)));simp only [nf]
   refine plan_calle rfl rfl hH cf31 (fun w' hH => hide_calls _ _ _ _ l (maskL c.data.toList l pn) _ pn (opSz c l pn) w' rfl (hH.blk 1 rfl) hO24 (fun w'' hw => (Sl.of_arr8 (o := 0) (n := 16) (hw.blk (hH.blk 2 rfl) (by simp only [List.mem_singleton]; exact hH.other (i := 1) rfl (j := 2) rfl (by decide) rfl)) (by omega) (by omega)).of_eq (by simp only [Nat.zero_add]; rfl)) (by omega) (by omega) (by rw [maskL_len]; omega) (by omega)) rfl ?_
   clear hH
   intro w37 v38 w39 hH hp40
   obtain ⟨rfl, hg, cs41, hbk, hO42⟩ := hp40
   replace hH := hH.callw 1 rfl hg hbk
   clear hg hbk
   (try simp only [nf, nh, Value.cells, arrB_set] at hH ⊢)
   refine plan_nil hH ?_
   clear hH
   intro w43 hH
   replace hO42 : OwnC _ _ _ 1 _ ((opBare c l pn).map V8) := hO42
   refine hK36 _ _ ?_
   (try clear hK36 K36)
   refine wp_seq_k ?_
   intro K44 hK44
   refine wrt [.p 0, .p 1, .p 2, .p 3] ?_
   refine pm (pm ?_);simp only [nf]
   refine pp rfl rfl (pr_bin rfl rfl (by first | exact bin_add_n (by first | omega | (first | (simp only [hideL_len, List.length_take, List.length_drop] at *; omega) | (rw [hbl]; omega) | (have := lt_u8 ((l.getD 0 0 ^^^ maskF c.data.toList l pn 0) &&& 3); omega))) | exact bin_add_i (by first | omega | (first | (simp only [hideL_len, List.length_take, List.length_drop] at *; omega) | (rw [hbl]; omega) | (have := lt_u8 ((l.getD 0 0 ^^^ maskF c.data.toList l pn 0) &&& 3); omega))) (by first | omega | (first | (simp only [hideL_len, List.length_take, List.length_drop] at *; omega) | (rw [hbl]; omega) | (have := lt_u8 ((l.getD 0 0 ^^^ maskF c.data.toList l pn 0) &&& 3); omega))))) ?_;simp only [nf]
   refine pa ?_;simp only [nf]
   refine plan_nil hH ?_
   clear hH
   intro w45 hH
   refine hK44 _ _ ?_
   (try clear hK44 K44)
   refine wp_seq_k ?_
   intro K46 hK46
   refine wrt [.p 0, .p 1, .p 2, .p 3, .q 4, .p 5, .p 6, .q 7, .p 8, .p 9, .p 10, .p 11, .p 12] ?_
   refine pm (pm (pm ?_));simp only [nf]
   refine pp rfl rfl (pr_slice_Sl_lh (OwnC.sl hH 1 rfl hO42) rfl rfl rfl Tryd.underlying22 sz5 (by first | omega | (first | (simp only [hideL_len, List.length_take, List.length_drop] at *; omega) | (rw [hbl]; omega) | (have := lt_u8 ((l.getD 0 0 ^^^ maskF c.data.toList l pn 0) &&& 3); omega))) (by first | omega | (first | (simp only [hideL_len, List.length_take, List.length_drop] at *; omega) | (rw [hbl]; omega) | (have := lt_u8 ((l.getD 0 0 ^^^ maskF c.data.toList l pn 0) &&& 3); omega)))) ?_;simp only [nf]
   refine pq rfl rfl (qr_call cf28 (fun w' hw => low_calls _ _ w' ((Sl.cut (OwnC.sl hH 1 rfl hO42) (by first | omega | (first | (simp only [hideL_len, List.length_take, List.length_drop] at *; omega) | (rw [hbl]; omega) | (have := lt_u8 ((l.getD 0 0 ^^^ maskF c.data.toList l pn 0) &&& 3); omega))) (by first | omega | (first | (simp only [hideL_len, List.length_take, List.length_drop] at *; omega) | (rw [hbl]; omega) | (have := lt_u8 ((l.getD 0 0 ^^^ maskF c.data.toList l pn 0) &&& 3); omega)))).chg hw) (by rw [List.length_take, List.length_drop]; omega)) rfl) ?_;simp only [nf]
   refine pm (pm ?_);simp only [nf]
   refine pq rfl rfl (qr_call cf35 (fun w' hw => pkwhole_calls _ _ _ w' hz1 hz2 (by rw [hcut]; exact hlw) (by omega)) rfl) ?_;simp only [nf]
   refine pm ?_;simp only [nf]
   refine pp rfl rfl (pr_extract rfl rfl) ?_;simp only [nf]
   refine pp rfl rfl (pr_extract rfl rfl) ?_;simp only [nf]
   refine pa (pa ?_);simp only [nf]
   refine plan_nil hH ?_
   clear hH
   intro w47 hH
   rw [hcut]
   have hnum : wholeN (lowN ((opBare c l pn).drop pn) (opSz c l pn)) (opSz c l pn) en = opNum c l pn en := rfl
   rw [hnum]
   refine hK46 _ _ ?_
   (try clear hK46 K46)
   refine wp_seq_k ?_
   intro K48 hK48
   refine wp_seq_k ?_
   intro K49 hK49
   refine wrt [.p 0, .p 1] ?_
   refine pm ?_;simp only [nf]
   refine pp rfl rfl (pr_bin rfl rfl (by first | exact bin_neq_n (n := 0)  | exact bin_neq_i)) ?_;simp only [nf]
   refine plan_nil hH ?_
   clear hH
   intro w50 hH
   refine hK49 _ _ ?_
   (try clear hK49 K49)
   refine wp_cond_false rfl ?_
   refine wp_skip ?_
   refine hK48 _ _ ?_
   (try clear hK48 K48)
   refine wp_seq_k ?_
   intro K51 hK51
   refine wrt [.p 0, .q 1, .x 2, .x 3, .p 4, .p 5, .p 6, .p 7, .p 8] ?_
   refine pp rfl rfl (pr_fieldAddr 0 rfl Tryd.underlying37 rfl rfl sz9) ?_;simp only [nf]
   refine pq rfl rfl (qr_load1 rfl Tryd.underlying9 rfl ((hH.blk 0 rfl).cell rfl)) ?_;simp only [nf]
   refine plan_s2b rfl rfl hH rfl Tryd.underlying9 Tryd.underlying22 Tryd.underlying5 ?_
   clear hH
   intro b52 cap53 cs54 w55 hO56 hH
   (try simp only [nf] at hH ⊢)
   (try simp only [nf, nh, Value.cells, arrB_set] at hH ⊢)
   refine plan_callx rfl rfl hH cf22 (fun w' hH => gnew_calls _ _ w' (OwnC.sl hH 3 rfl hO56) (by simpa using ha)) rfl (fun _ _ _ h => by obtain ⟨_, _, _, hg, _⟩ := h; exact hg) ?_
   clear hH
   intro w57 v58 w59 hH hp60
   obtain ⟨b61, b62, rfl, hg, hfc, hbc, hfx, hbx, hne⟩ := hp60
   replace hH := hH.callnew2 hg hbc hfc hbx hfx hne
   clear hg hfc hbc hfx hbx hne
   (try simp only [nf, nh, Value.cells, arrB_set] at hH ⊢)
   (try simp only [nf])
   refine pm ?_;simp only [nf]
   refine pp rfl rfl (pr_extract rfl rfl) ?_;simp only [nf]
   refine pp rfl rfl (pr_extract rfl rfl) ?_;simp only [nf]
   refine pa (pa ?_);simp only [nf]
   refine plan_nil hH ?_
   clear hH
   intro w63 hH
   refine hK51 _ _ ?_
   (try clear hK51 K51)
   refine wp_seq_k ?_
   intro K64 hK64
   refine wp_seq_k ?_
   intro K65 hK65
   refine wrt [.p 0, .p 1] ?_
   refine pm ?_;simp only [nf]
   refine pp rfl rfl (pr_bin rfl rfl (by first | exact bin_neq_n (n := 0)  | exact bin_neq_i)) ?_;simp only [nf]
   refine plan_nil hH ?_
   clear hH
   intro w66 hH
   refine hK65 _ _ ?_
   (try clear hK65 K65)
   refine wp_cond_false rfl ?_
   refine wp_skip ?_
   refine hK64 _ _ ?_
   (try clear hK64 K64)
   refine wp_seq_k ?_
   intro K67 hK67
   by_cases hopen : opOk a b c l pn en
   ·
    refine wrp [.p 0, .p 2, .p 4, .p 5, .p 6, .p 7, .p 8, .p 9, .q 1, .x 3, .x 10, .p 11, .p 12, .p 13, .p 14, .p 15] ?_
    refine pm (pm (pm (pm ?_)));simp only [nf]
    refine pp rfl rfl (pr_slice_Sl_h (OwnC.sl hH 1 rfl hO42) rfl rfl Tryd.underlying22 sz5 (by first | omega | (first | (simp only [hideL_len, List.length_take, List.length_drop] at *; omega) | (rw [hbl]; omega) | (have := lt_u8 ((l.getD 0 0 ^^^ maskF c.data.toList l pn 0) &&& 3); omega)))) ?_;simp only [nf]
    refine pm (pm ?_);simp only [nf]
    refine pp rfl rfl (pr_slice_Sl_l (OwnC.sl hH 1 rfl hO42) rfl rfl Tryd.underlying22 sz5 (by first | omega | (first | (simp only [hideL_len, List.length_take, List.length_drop] at *; omega) | (rw [hbl]; omega) | (have := lt_u8 ((l.getD 0 0 ^^^ maskF c.data.toList l pn 0) &&& 3); omega)))) ?_;simp only [nf]
    refine pq rfl rfl (qr_loadW rfl (hH.blk 0 rfl) Tryd.underlying37 rfl sz37 (by simp)) ?_;simp only [nf]
    refine plan_callx rfl rfl hH cf29 (fun w' hH => nonce_calls _ _ _ _ w' hb hnb) rfl (fun _ _ _ h => by obtain ⟨_, _, _, _, hg, _⟩ := h; exact hg) ?_
    clear hH
    intro w68 v69 w70 hH hp71
    obtain ⟨o72, cap73, cs74, rfl, hg, hO75, hfr⟩ := hp71
    replace hH := hH.callown hg hfr
    clear hg hfr
    (try simp only [nf, nh, Value.cells, arrB_set] at hH ⊢)
    (try simp only [nf])
    refine plan_callx rfl rfl hH cf36 (fun w' hH => Open_calls _ _ _ (hP _) _ _ _ _ _ _ w' (hH.blk 5 rfl) (hH.blk 4 rfl) (OwnC.sl hH 6 rfl hO75) (by rw [nonL_len]; simpa using hb) ((Sl.cuth (OwnC.sl hH 1 rfl hO42) (by first | omega | (first | (simp only [hideL_len, List.length_take, List.length_drop] at *; omega) | (rw [hbl]; omega) | (have := lt_u8 ((l.getD 0 0 ^^^ maskF c.data.toList l pn 0) &&& 3); omega)))).of_eq (show _ = opHead c l pn from rfl)) ((Sl.cutl (OwnC.sl hH 1 rfl hO42) (by first | omega | (first | (simp only [hideL_len, List.length_take, List.length_drop] at *; omega) | (rw [hbl]; omega) | (have := lt_u8 ((l.getD 0 0 ^^^ maskF c.data.toList l pn 0) &&& 3); omega)))).of_eq (show _ = opRest c l pn from rfl)) (by omega) (by omega) hopen) rfl (fun _ _ _ h => by obtain ⟨_, _, _, _, hg, _⟩ := h; exact hg) ?_
    clear hH
    intro w76 v77 w78 hH hp79
    obtain ⟨o80, cap81, cs82, rfl, hg, hO83, hfr⟩ := hp79
    replace hH := hH.callown hg hfr
    clear hg hfr
    (try simp only [nf, nh, Value.cells, arrB_set] at hH ⊢)
    (try simp only [nf])
    refine pm ?_;simp only [nf]
    refine pp rfl rfl (pr_extract rfl rfl) ?_;simp only [nf]
    refine pp rfl rfl (pr_extract rfl rfl) ?_;simp only [nf]
    refine pa (pa ?_);simp only [nf]
    refine plan_nil hH ?_
    clear hH
    intro w84 hH
    refine hK67 _ _ ?_
    (try clear hK67 K67)
    refine wp_seq_k ?_
    intro K85 hK85
    refine wp_seq_k ?_
    intro K86 hK86
    refine wrt [.p 0, .p 1, .p 2, .p 3, .p 4, .p 5, .p 6] ?_
    refine pm ?_;simp only [nf]
    refine pp rfl rfl (pr_bin rfl rfl (by first | exact bin_neq_n (n := 0)  | exact bin_neq_i)) ?_;simp only [nf]
    refine plan_p (v := BV false) rfl rfl (pr_move_v rfl) ?_
    (try simp only [nf])
    refine pp rfl rfl pr_move ?_;simp only [nf]
    refine pp rfl rfl (pr_len_sl rfl Tryd.underlying22) ?_;simp only [nf]
    refine pp rfl rfl (pr_bin rfl rfl (by first | exact bin_gtr_n (n := 65000)  | exact bin_gtr_i)) ?_;simp only [nf]
    refine pp rfl rfl (pr_pick_f rfl) ?_;simp only [nf]
    refine plan_nil hH ?_
    clear hH
    intro w87 hH
    refine hK86 _ _ ?_
    (try clear hK86 K86)
    refine wp_cond_false (by show BV _ = _; exact congrArg BV (decide_eq_false (by rw [hrl]; omega))) ?_
    refine wp_skip ?_
    refine hK85 _ _ ?_
    (try clear hK85 K85)
    refine wp_seq_k ?_
    intro K88 hK88
    refine wrt [.p 0, .p 1, .p 2, .p 3, .p 4, .p 5, .p 6, .p 7, .p 8, .p 9] ?_
    refine pm (pm (pm ?_));simp only [nf]
    refine pp rfl rfl (pr_slice_O3 rfl rfl rfl Tryd.underlying22 sz5 (Nat.le_trans (by first | omega | (first | (simp only [hideL_len, List.length_take, List.length_drop] at *; omega) | (rw [hbl]; omega) | (have := lt_u8 ((l.getD 0 0 ^^^ maskF c.data.toList l pn 0) &&& 3); omega))) (OwnC.le hO42))) ?_;simp only [nf]
    refine pm (pm (pa (pa (pa (pka 0 ?_)))));simp only [nf]
    refine plan_nil hH ?_
    clear hH
    intro w89 hH
    refine hK88 _ _ ?_
    (try clear hK88 K88)
    refine wp_ret ?_
    (try simp only [Exit.then, Exit.inBlock, ↓reduceIte, Nat.reduceEqDiff])
    refine BP.ret4 rfl rfl rfl rfl rfl ?_
    have he : openE a b c l (pn : Nat) (en : Nat) = 0 := by
      unfold openE
      rw [if_pos hok, if_pos (by omega), hm, hnm, if_pos hopen]
    simp only [hm, hnm]
    refine ⟨fun _ => ⟨_, _, _, _, _, rfl, hH.pick2 1 7 rfl rfl (by decide), ?_, ?_⟩, fun e h1 h2 => absurd (h1.symm.trans he) h2⟩
    · exact OwnC.cut3 (l := opBare c l pn) (by assumption) (by omega)
    · assumption
   ·
    refine wrp [.p 0, .p 2, .p 4, .p 5, .p 6, .p 7, .p 8, .p 9, .q 1, .x 3, .x 10, .p 11, .p 12, .p 13, .p 14, .p 15] ?_
    refine pm (pm (pm (pm ?_)));simp only [nf]
    refine pp rfl rfl (pr_slice_Sl_h (OwnC.sl hH 1 rfl hO42) rfl rfl Tryd.underlying22 sz5 (by first | omega | (first | (simp only [hideL_len, List.length_take, List.length_drop] at *; omega) | (rw [hbl]; omega) | (have := lt_u8 ((l.getD 0 0 ^^^ maskF c.data.toList l pn 0) &&& 3); omega)))) ?_;simp only [nf]
    refine pm (pm ?_);simp only [nf]
    refine pp rfl rfl (pr_slice_Sl_l (OwnC.sl hH 1 rfl hO42) rfl rfl Tryd.underlying22 sz5 (by first | omega | (first | (simp only [hideL_len, List.length_take, List.length_drop] at *; omega) | (rw [hbl]; omega) | (have := lt_u8 ((l.getD 0 0 ^^^ maskF c.data.toList l pn 0) &&& 3); omega)))) ?_;simp only [nf]
    refine pq rfl rfl (qr_loadW rfl (hH.blk 0 rfl) Tryd.underlying37 rfl sz37 (by simp)) ?_;simp only [nf]
    refine plan_callx rfl rfl hH cf29 (fun w' hH => nonce_calls _ _ _ _ w' hb hnb) rfl (fun _ _ _ h => by obtain ⟨_, _, _, _, hg, _⟩ := h; exact hg) ?_
    clear hH
    intro w90 v91 w92 hH hp93
    obtain ⟨o94, cap95, cs96, rfl, hg, hO97, hfr⟩ := hp93
    replace hH := hH.callown hg hfr
    clear hg hfr
    (try simp only [nf, nh, Value.cells, arrB_set] at hH ⊢)
    (try simp only [nf])
    refine plan_callx rfl rfl hH cf36 (fun w' hH => Open_wrong _ _ _ (hP _) _ _ _ _ _ _ w' (hH.blk 5 rfl) (hH.blk 4 rfl) (OwnC.sl hH 6 rfl hO97) (by rw [nonL_len]; simpa using hb) ((Sl.cuth (OwnC.sl hH 1 rfl hO42) (by first | omega | (first | (simp only [hideL_len, List.length_take, List.length_drop] at *; omega) | (rw [hbl]; omega) | (have := lt_u8 ((l.getD 0 0 ^^^ maskF c.data.toList l pn 0) &&& 3); omega)))).of_eq (show _ = opHead c l pn from rfl)) ((Sl.cutl (OwnC.sl hH 1 rfl hO42) (by first | omega | (first | (simp only [hideL_len, List.length_take, List.length_drop] at *; omega) | (rw [hbl]; omega) | (have := lt_u8 ((l.getD 0 0 ^^^ maskF c.data.toList l pn 0) &&& 3); omega)))).of_eq (show _ = opRest c l pn from rfl)) (by omega) (by omega) hopen) rfl (fun _ _ _ h => h.2) ?_
    clear hH
    intro w98 v99 w100 hH hp101
    obtain ⟨rfl, hg⟩ := hp101
    replace hH := hH.call hg
    clear hg
    (try simp only [nf])
    refine pm ?_;simp only [nf]
    refine pp rfl rfl (pr_extract rfl rfl) ?_;simp only [nf]
    refine pp rfl rfl (pr_extract rfl rfl) ?_;simp only [nf]
    refine pa (pa ?_);simp only [nf]
    refine plan_nil hH ?_
    clear hH
    intro w102 hH
    refine hK67 _ _ ?_
    (try clear hK67 K67)
    refine wp_seq_k ?_
    intro K103 hK103
    refine wp_seq_k ?_
    intro K104 hK104
    refine wrt [.p 0, .p 1, .p 2, .p 3, .p 4, .p 5, .p 6] ?_
    refine pm ?_;simp only [nf]
    refine pp rfl rfl (pr_bin rfl rfl (by first | exact bin_neq_n (n := 0)  | exact bin_neq_i)) ?_;simp only [nf]
    refine plan_p (v := BV true) rfl rfl (pr_move_v rfl) ?_
    (try simp only [nf])
    refine plan_ps rfl rfl ?_
    (try simp only [nf])
    refine plan_ps rfl rfl ?_
    (try simp only [nf])
    refine plan_ps rfl rfl ?_
    (try simp only [nf])
    refine pp rfl rfl (pr_pick_t rfl) ?_;simp only [nf]
    refine plan_nil hH ?_
    clear hH
    intro w105 hH
    refine hK104 _ _ ?_
    (try clear hK104 K104)
    refine wp_cond_true rfl ?_
    refine wp_seq_k ?_
    intro K106 hK106
    refine wrt [.p 0, .p 1, .p 2, .p 3] ?_
    refine pa (pka 0 (pa (pka 4 ?_)));simp only [nf]
    refine plan_nil hH ?_
    clear hH
    intro w107 hH
    refine hK106 _ _ ?_
    (try clear hK106 K106)
    refine wp_ret ?_
    (try simp only [Exit.then, Exit.inBlock, ↓reduceIte, Nat.reduceEqDiff])
    refine BP.ret4 rfl rfl rfl rfl rfl ?_
    have he : openE a b c l (pn : Nat) (en : Nat) = 4 := by
      unfold openE
      rw [if_pos hok, if_pos (by omega), hm, hnm, if_neg hopen]
    exact ⟨fun h => by (rw [he] at h; cases h), fun k h1 _ => by (rw [he] at h1; subst h1; exact ⟨rfl, hH.chg⟩)⟩
end Go.Proofs.YtmoaddicejohgaaDoor
set_option linter.unusedSimpArgs false
set_option linter.unusedVariables false
namespace Go.Proofs.YtmoaddicejohgaaDoor
open Go Go.ChangeShapes Go.WideShapes Go.RowKit
section
variable {H : Type} {enc : TypeId × Value → H} {P : Program}
theorem trodAll_kept (hl : laidOutB P = true) {W W' : World} (hb : Below W.heap.size W W') {sp : Nat → Bool} : ∀ {ts : List TypeId} {vs : List Value} {ds : List (DataW H)} {ps : List MemPlace},
    (ts.all fun t => P.readableRec t && decide (t < P.types.size)) = true → DataW.TrodAll enc P W 0 (fun _ => true) true ts vs ds ps → (∀ x ∈ ps, x.block < W.heap.size) → (∀ x ∈ ps, sp x.block = true) →
      DataW.TrodAll enc P W' 0 sp true ts vs ds ps
  | [], _, _, _, _, h, _, _ => by
    obtain ⟨rfl, rfl, rfl⟩ := trodAll_nil h
    rfl
  | t :: ts, _, _, _, hr, h, hlt, hs => by
    obtain ⟨v, vs1, d, ds1, a, b, rfl, rfl, rfl, h1, h2⟩ := trodAll_cons h
    simp only [List.all_cons, Bool.and_eq_true, decide_eq_true_eq] at hr
    refine ⟨a, b, WideElems.Trod_stays hl hr.1.1 hr.1.2 h1 (fun x hx => hb.same (hlt x (by simp [hx]))) (fun x hx => hs x (by simp [hx])), trodAll_kept hl hb ?_ h2 (fun x hx => hlt x (by simp [hx])) (fun x hx => hs x (by simp [hx])), rfl⟩
    simpa using hr.2
theorem trodVars_nil {w : World} {sp : Nat → Bool} {gs : List (DataW H)} {ps : List MemPlace} (h : DataW.TrodVars enc P w sp [] gs ps) : gs = [] ∧ ps = [] := by
  cases gs with
  | nil => exact ⟨rfl, h⟩
  | cons d ds => simp [DataW.TrodVars] at h
theorem post_of_true {f : Func} {s : ChangeSpec} {apart handsOn again : Bool} {W W' : World} {args : Array Value} {ds gs : List (DataW H)} {before : List MemPlace} {tb : TypeId}
    (hl : laidOutB P = true) (hpar : (f.params.toList.all fun t => P.readableRec t && decide (t < P.types.size)) = true) (hrt : f.resultTypes = #[tb]) (hb : P.underlying tb = some .bool) (hv : s.vars = [])
    (hs : ∀ ds : List (DataW H), ds.length = f.params.toList.length → s.fn H ds = { results := [.lit (.bool true)], args := ds })
    (hW : DataW.Whole enc P f.params.toList s.vars apart W args.toList ds gs before) (hc : Chg [] W W') : s.post enc P f apart true handsOn again W args (BV true) W' := by
  have hlt := hW.lt
  have hW0 := hW
  obtain ⟨p, q, hA, hV, rfl, hz, hn⟩ := hW
  rw [hv] at hV
  obtain ⟨rfl, rfl⟩ := trodVars_nil hV
  have hlen : ds.length = f.params.toList.length := by
    have : ∀ {ts : List TypeId} {vs : List Value} {ds : List (DataW H)} {ps : List MemPlace}, DataW.TrodAll enc P W 0 (fun _ => true) true ts vs ds ps → ds.length = ts.length := by
      intro ts
      induction ts with
      | nil => intro vs ds ps h; obtain ⟨rfl, rfl, rfl⟩ := trodAll_nil h; rfl
      | cons t ts ih =>
        intro vs ds ps h
        obtain ⟨v, vs1, d, ds1, a, b, rfl, rfl, rfl, h1, h2⟩ := trodAll_cons h
        simp [ih h2]
    exact this hA
  have e := hs (ds ++ []) (by simpa using hlen)
  have hbel := hc.below
  have hargs : ∀ sp : Nat → Bool, (∀ x ∈ p ++ [], sp x.block = true) → DataW.TrodAll enc P W' 0 sp true f.params.toList args.toList (s.fn H (ds ++ [])).args p := fun sp hsp => by
    rw [e, List.append_nil]
    exact trodAll_kept hl hbel hpar hA (fun x hx => hlt x (by simp [hx])) (fun x hx => hsp x (by simp [hx]))
  have hres : ∀ (b : Nat) (sp : Nat → Bool) (hd : Bool), DataW.TrodAll enc P W' b sp hd f.resultTypes.toList ((BV true).resultList f.resultTypes.size) (s.fn H (ds ++ [])).results [] := fun b sp hd => by
    rw [e, hrt]
    exact ⟨[], [], shut_bool hb true, rfl, rfl⟩
  have hvars : ∀ sp : Nat → Bool, (∀ x ∈ p ++ [], sp x.block = true) → DataW.TrodVars enc P W' sp s.vars (s.fn H (ds ++ [])).vars [] := fun sp _ => by
    rw [e, hv]; rfl
  have hold : ∀ x ∈ p ++ [], (fun b => decide (b < W.heap.size)) x.block = true := fun x hx => by simpa using hlt x hx
  refine ⟨ds, [], p ++ [], [], p, [], hW0, hres _ _ _, hargs _ hold, hvars _ hold, World.keptBut_mono (fun x hx => ⟨hx, ?_⟩) (hbel.frame (· ∈ p ++ [])), fun _ => ?_⟩
  · rw [List.mem_append] at hx
    exact Or.inr hx
  · refine ⟨ok_one hrt rfl (okWide_bool_mk hb true), _, _, ([] ++ p) ++ [], ⟨[] ++ p, [], trodAll_append (hargs _ (fun _ _ => rfl)) (hres _ _ _), hvars _ (fun _ _ => rfl), rfl, ?_, ?_⟩, ?_⟩
    · intro b off hp
      have hb' : b < W.heap.size := hlt (.cell b off) (by simpa using hp)
      rw [hbel.frozen (p := ⟨b, off, none⟩) hb']
      exact hz b off (by simpa using hp)
    · intro ha
      simpa using hn ha
    · intro x hx _
      simpa using hx
end
section
variable {H : Type} {enc : TypeId × Value → H} {P : Program} {w : World} {base : Nat} {spare : Nat → Bool} {held : Bool}
theorem trod_u8 {e : TypeId} {fuel : Nat} {cs : List Value} {x : DataW H × List MemPlace} (he : P.underlying e = some (.int .u8)) (h : DataW.trod enc P w base spare held fuel e cs = some x) : ∃ b : UInt8, cs = [V8 b] := by
  obtain ⟨n, rfl, _, hw⟩ := DataW.trod_int he h
  have := bounds_u8 hw
  refine ⟨UInt8.ofNat n.toNat, ?_⟩
  have e1 : ((UInt8.ofNat n.toNat).toNat : Int) = n := by
    rw [UInt8.toNat_ofNat']; omega
  rw [show V8 (UInt8.ofNat n.toNat) = .int .u8 ((UInt8.ofNat n.toNat).toNat : Int) from rfl, e1]
theorem trod_field {t : TypeId} {fuel : Nat} {cs : List Value} {x : DataW H × List MemPlace} {fs : Array Field} (hu : P.underlying t = some (.struct fs)) (h : DataW.trod enc P w base spare held fuel t cs = some x)
    (i : Nat) {ft off m : Nat} (hf : (fs[i]?).map (fun f => (f.type, f.offset)) = some (ft, off)) (hm : szc P ft = some m) : ∃ y n, DataW.trod enc P w base spare held n ft ((cs.drop off).take m) = some y := by
  obtain ⟨xs, n, _, _, _, hl, hall⟩ := DataW.trod_struct hu h
  obtain ⟨f, hf1, hf2⟩ := Option.map_eq_some_iff.1 hf
  cases hf2
  have hc : P.cellsOf f.type = m := by unfold szc at hm; unfold Program.cellsOf; rw [hm]; rfl
  have hi := (Array.getElem?_eq_some_iff.1 hf1).1
  have := hall i f hf1
  rw [hc, List.getElem?_eq_getElem (by omega)] at this
  exact ⟨_, n, this⟩
end
end Go.Proofs.YtmoaddicejohgaaDoor
set_option linter.unusedSimpArgs false
set_option linter.unusedVariables false
namespace Go.Proofs.YtmoaddicejohgaaDoor
open Go Go.ChangeShapes Go.WideShapes Go.RowKit
section
variable {P : Program} {ops : List Oper} {Q : Exit → Act → World → Prop} {r : List PStep} {a : Act} {w : World} {i : Nat} {d : Option Tmp} {ty : TypeId} {pos : String} {af : Array Edge} {g : Option (Nat × Bool)} {x y : Operand} {t t' T : TypeId}
  {S : List Nat} {w0 : World} {L : List Own}
end
theorem weightsEach_at {H : Type} {P : Program} {p : Nat → Bool} : ∀ {ts : List TypeId} {ds : List (DataW H)}, (DataW.weightsEach P ts ds).all p = true → ∀ (i : Nat) (t : TypeId) (d : DataW H), ts[i]? = some t → ds[i]? = some d → (d.weights P t).all p = true
  | [], _, _, i, t, d, h1, _ => by simp at h1
  | _ :: _, [], _, i, t, d, _, h2 => by simp at h2
  | t0 :: ts, d0 :: ds, h, i, t, d, h1, h2 => by
    simp only [DataW.weightsEach, List.all_append, Bool.and_eq_true] at h
    cases i with
    | zero => simp at h1 h2; subst h1; subst h2; exact h.1
    | succ i => exact weightsEach_at h.2 i t d (by simpa using h1) (by simpa using h2)
section
variable {H : Type} {enc : TypeId × Value → H} {P : Program} {w : World} {base : Nat} {spare : Nat → Bool} {held : Bool}
end
end Go.Proofs.YtmoaddicejohgaaDoor
set_option linter.unusedSimpArgs false
set_option linter.unusedVariables false
set_option maxRecDepth 100000
set_option maxHeartbeats 4000000
namespace Go.Proofs.YtmoaddicejohgaaDoor
open Go
open List (getD_cons_zero getD_cons_succ set_cons_zero set_cons_succ)
theorem sealed_take (K : Nat → UInt8) (h : P2) (nl al bl : List UInt8) : (sealedL K h nl al bl).take ((sealedL K h nl al bl).length - 16) = hidL K nl bl := by
  rw [sealedL_len, Nat.add_sub_cancel]
  unfold sealedL
  rw [List.take_append_of_le_length (by rw [hidL_len]; exact Nat.le_refl _), List.take_of_length_le (by rw [hidL_len]; exact Nat.le_refl _)]
theorem sealed_drop (K : Nat → UInt8) (h : P2) (nl al bl : List UInt8) : (sealedL K h nl al bl).drop ((sealedL K h nl al bl).length - 16) = sealL K h nl al (hidL K nl bl) := by
  rw [sealedL_len, Nat.add_sub_cancel]
  unfold sealedL
  rw [List.drop_append_of_le_length (by rw [hidL_len]; exact Nat.le_refl _), List.drop_eq_nil_of_le (by rw [hidL_len]; exact Nat.le_refl _), List.nil_append]
theorem hid_twice (K : Nat → UInt8) (nl bl : List UInt8) : hidL K nl (hidL K nl bl) = bl := by
  unfold hidL
  rw [strm_len]; exact strm_twice _ _ _ _
end Go.Proofs.YtmoaddicejohgaaDoor
set_option linter.unusedSimpArgs false
set_option linter.unusedVariables false
set_option maxRecDepth 100000
set_option maxHeartbeats 4000000
namespace Go.Proofs.YtmoaddicejohgaaDoor
open Go
open List (getD_cons_zero getD_cons_succ set_cons_zero set_cons_succ)
theorem xor2_inj {a b : P2} {l : P2} (h : ((a.1 ^^^ l.1, a.2 ^^^ l.2) : P2) = (b.1 ^^^ l.1, b.2 ^^^ l.2)) : a = b := by
  have h1 := congrArg (fun p : P2 => p.1 ^^^ l.1) h
  have h2 := congrArg (fun p : P2 => p.2 ^^^ l.2) h
  simp only [UInt64.xor_assoc, UInt64.xor_self, UInt64.xor_zero] at h1 h2
  exact Prod.ext h1 h2
theorem xor2_inj' {a b : P2} {l : P2} (h : ((l.1 ^^^ a.1, l.2 ^^^ a.2) : P2) = (l.1 ^^^ b.1, l.2 ^^^ b.2)) : a = b := by
  refine xor2_inj (l := l) ?_
  rw [UInt64.xor_comm a.1, UInt64.xor_comm a.2, UInt64.xor_comm b.1, UInt64.xor_comm b.2]; exact h
theorem mulP_cancel {a b h : P2} (e : mulP a h = mulP b h) : h = (0, 0) ∨ a = b := by
  have e1 : gm (pw a) (pw h) = gm (pw b) (pw h) := by rw [← pw_mul, ← pw_mul, e]
  have e2 : gm (pw a ^^^ pw b) (pw h) = 0 := by rw [gm_xor_l, e1, Nat.xor_self]
  rcases gm_nought (Nat.xor_lt_two_pow (pw_lt a) (pw_lt b)) (pw_lt h) e2 with e3 | e3
  · right
    have := congrArg (· ^^^ pw b) e3
    simp only [Nat.xor_assoc, Nat.xor_self, Nat.xor_zero, Nat.zero_xor] at this
    exact pw_inj this
  · left; exact pw_inj e3
theorem takeP_reg {h r r' : P2} {l : List UInt8} : ∀ n, takeP h r l n = takeP h r' l n → h = (0, 0) ∨ r = r'
  | 0, e => .inr e
  | n + 1, e => by
    rcases mulP_cancel e with e1 | e1
    · exact .inl e1
    · exact takeP_reg n (xor2_inj e1)
theorem takeP_diff {h r : P2} {l l' : List UInt8} {j : Nat} (hne : l.getD j 0 ≠ l'.getD j 0) (hs : ∀ i, i ≠ j → l.getD i 0 = l'.getD i 0) : ∀ m, takeP h r l (j / 16 + 1 + m) = takeP h r l' (j / 16 + 1 + m) → h = (0, 0)
  | 0, e => by
    have e0 : takeP h r l (j / 16) = takeP h r l' (j / 16) := takeP_congr h r _ fun i hi => hs i (by omega)
    rw [Nat.add_zero, takeP, takeP, e0] at e
    rcases mulP_cancel e with e1 | e1
    · exact e1
    · exfalso
      have e2 := xor2_inj' e1
      have e3 := congrArg (fun p => nbP p (j % 16)) e2
      unfold blkP at e3
      simp only [nb_of _ _ (Nat.mod_lt j (by decide : 0 < 16))] at e3
      rw [show 16 * (j / 16) + j % 16 = j by omega] at e3
      exact hne e3
  | m + 1, e => by
    rw [← Nat.add_assoc, takeP, takeP] at e
    have eb : blkP l (j / 16 + 1 + m) = blkP l' (j / 16 + 1 + m) := ofP_congr fun i hi => hs _ (by omega)
    rw [eb] at e
    rcases mulP_cancel e with e1 | e1
    · exact e1
    · exact takeP_diff hne hs m (xor2_inj e1)
theorem takeP_byte {h r : P2} {l l' : List UInt8} {j : Nat} (hj : j < l.length) (hl : l.length = l'.length) (hne : l.getD j 0 ≠ l'.getD j 0) (hs : ∀ i, i ≠ j → l.getD i 0 = l'.getD i 0) (e : takeP h r l (blocks l) = takeP h r l' (blocks l')) : h = (0, 0) := by
  have hb : blocks l' = blocks l := by unfold blocks; rw [hl]
  rw [hb] at e
  obtain ⟨m, hm⟩ : ∃ m, blocks l = j / 16 + 1 + m := ⟨blocks l - (j / 16 + 1), by unfold blocks; omega⟩
  rw [hm] at e
  exact takeP_diff hne hs m e
theorem seal_inj {K : Nat → UInt8} {h : P2} {nl al cl al' cl' : List UInt8} (e : sealL K h nl al cl = sealL K h nl al' cl') : sealP h al cl = sealP h al' cl' := by
  have hb : ∀ i, i < 16 → nbP (sealP h al cl) i = nbP (sealP h al' cl') i := fun i hi => by
    have := congrArg (fun l : List UInt8 => l.getD i 0) e
    unfold sealL at this
    simp only [strm_at _ _ _ _ hi] at this
    have e1 : ((List.range 16).map (nbP (sealP h al cl))).getD i 0 = nbP (sealP h al cl) i := cut16 _ hi
    have e2 : ((List.range 16).map (nbP (sealP h al' cl'))).getD i 0 = nbP (sealP h al' cl') i := cut16 _ hi
    rw [e1, e2] at this
    have h2 := congrArg (· ^^^ ksF K (gctr nl 1) (0 + i)) this
    simpa [UInt8.xor_assoc] using h2
  rw [← of_nb (sealP h al cl), ← of_nb (sealP h al' cl')]
  exact ofP_congr hb
theorem set_getD (l : List UInt8) (j : Nat) (v : UInt8) (i : Nat) (hj : j < l.length) : (l.set j v).getD i 0 = if i = j then v else l.getD i 0 := by
  simp only [List.getD, List.getElem?_set]
  by_cases h : j = i
  · subst h; rw [if_pos rfl, if_pos rfl, if_pos hj]; rfl
  · rw [if_neg h, if_neg (fun e => h e.symm)]
theorem xor_ne {a x : UInt8} (h : x ≠ 0) : a ≠ a ^^^ x := fun e => h (by
  have := congrArg (a ^^^ ·) e
  simpa [← UInt8.xor_assoc] using this.symm)
theorem spoilt_hid {K : Nat → UInt8} {h : P2} {nl al cl : List UInt8} {j : Nat} {x : UInt8} (hj : j < cl.length) (hx : x ≠ 0) (e : sealL K h nl al (cl.set j (cl.getD j 0 ^^^ x)) = sealL K h nl al cl) : h = (0, 0) := by
  have e1 := seal_inj e
  unfold sealP at e1
  rw [List.length_set] at e1
  rcases mulP_cancel e1 with e2 | e2
  · exact e2
  · have e3 := xor2_inj (l := (UInt64.ofNat al.length <<< 3, UInt64.ofNat cl.length <<< 3)) e2
    refine takeP_byte (j := j) (by rw [List.length_set]; exact hj) (List.length_set) ?_ (fun i hi => ?_) e3
    · rw [set_getD _ _ _ _ hj, if_pos rfl]; exact fun e => xor_ne hx e.symm
    · rw [set_getD _ _ _ _ hj, if_neg hi]
theorem spoilt_side {K : Nat → UInt8} {h : P2} {nl al cl : List UInt8} {j : Nat} {x : UInt8} (hj : j < al.length) (hx : x ≠ 0) (e : sealL K h nl (al.set j (al.getD j 0 ^^^ x)) cl = sealL K h nl al cl) : h = (0, 0) := by
  have e1 := seal_inj e
  unfold sealP at e1
  rw [List.length_set] at e1
  rcases mulP_cancel e1 with e2 | e2
  · exact e2
  · have e3 := xor2_inj (l := (UInt64.ofNat al.length <<< 3, UInt64.ofNat cl.length <<< 3)) e2
    rcases takeP_reg _ e3 with e4 | e4
    · exact e4
    · refine takeP_byte (j := j) (by rw [List.length_set]; exact hj) (List.length_set) ?_ (fun i hi => ?_) e4
      · rw [set_getD _ _ _ _ hj, if_pos rfl]; exact fun e => xor_ne hx e.symm
      · rw [set_getD _ _ _ _ hj, if_neg hi]
def spoC (c : List UInt8) (k : Nat) (x : UInt8) : List UInt8 := if k < c.length then c.set k (c.getD k 0 ^^^ x) else c
def spoS (c s : List UInt8) (k : Nat) (x : UInt8) : List UInt8 := if k < c.length then s else s.set (k - c.length) (s.getD (k - c.length) 0 ^^^ x)
def toldEq (K : Nat → UInt8) (h : P2) (nl c s : List UInt8) (k : Nat) (x : UInt8) : Prop := sealL K h nl (spoS c s k x) ((spoC c k x).take ((spoC c k x).length - 16)) = (spoC c k x).drop ((spoC c k x).length - 16)
theorem spoC_len (c : List UInt8) (k : Nat) (x : UInt8) : (spoC c k x).length = c.length := by
  unfold spoC; split
  · exact List.length_set
  · rfl
theorem spoilt_law {K : Nat → UInt8} {h : P2} {nl al bl : List UInt8} {k : Nat} {x : UInt8} (hk : k < (sealedL K h nl al bl).length + al.length) (hx : x ≠ 0) (e : toldEq K h nl (sealedL K h nl al bl) al k x) : h = (0, 0) := by
  unfold toldEq at e
  rw [spoC_len, sealedL_len, Nat.add_sub_cancel] at e
  rw [sealedL_len] at hk
  have hh := hidL_len K nl bl
  have ht := sealL_len K h nl al (hidL K nl bl)
  have hd : sealedL K h nl al bl = hidL K nl bl ++ sealL K h nl al (hidL K nl bl) := rfl
  by_cases h1 : k < bl.length
  · unfold spoC spoS at e
    rw [if_pos (by rw [sealedL_len]; omega), if_pos (by rw [sealedL_len]; omega), hd] at e
    have e1 : (hidL K nl bl ++ sealL K h nl al (hidL K nl bl)).getD k 0 = (hidL K nl bl).getD k 0 := by simp only [List.getD, List.getElem?_append, hh, h1, if_true]
    rw [e1, List.set_append_left _ _ (by rw [hh]; exact h1), List.take_left' (by rw [List.length_set, hh]), List.drop_left' (by rw [List.length_set, hh])] at e
    exact spoilt_hid (by rw [hh]; exact h1) hx e
  · by_cases h2 : k < bl.length + 16
    · exfalso
      unfold spoC spoS at e
      rw [if_pos (by rw [sealedL_len]; omega), if_pos (by rw [sealedL_len]; omega), hd] at e
      rw [List.set_append_right _ _ (by rw [hh]; omega), hh, List.take_left' hh, List.drop_left' hh] at e
      have e2 := congrArg (fun l : List UInt8 => l.getD (k - bl.length) 0) e
      rw [set_getD _ _ _ _ (by rw [ht]; omega), if_pos rfl] at e2
      have e3 : (hidL K nl bl ++ sealL K h nl al (hidL K nl bl)).getD k 0 = (sealL K h nl al (hidL K nl bl)).getD (k - bl.length) 0 := by
        simp only [List.getD, List.getElem?_append, hh, h1, if_false]
      rw [e3] at e2
      exact xor_ne hx e2
    · unfold spoC spoS at e
      rw [if_neg (by rw [sealedL_len]; omega), if_neg (by rw [sealedL_len]; omega), sealedL_len] at e
      rw [hd, List.take_left' hh, List.drop_left' hh] at e
      exact spoilt_side (by omega) hx e
theorem seal_nought (K : Nat → UInt8) (nl al al' cl : List UInt8) : sealL K (0, 0) nl al cl = sealL K (0, 0) nl al' cl := by
  unfold sealL sealP
  rw [mulP_comm _ (0, 0), mulP_zero, mulP_comm _ (0, 0), mulP_zero]
end Go.Proofs.YtmoaddicejohgaaDoor
set_option linter.unusedSimpArgs false
set_option linter.unusedVariables false
set_option maxRecDepth 100000
set_option maxHeartbeats 4000000
namespace Go.Proofs.YtmoaddicejohgaaDoor
open Go
open List (getD_cons_zero getD_cons_succ set_cons_zero set_cons_succ)
theorem getD_ext {l l' : List UInt8} (h : l.length = l'.length) (he : ∀ i, i < l.length → l.getD i 0 = l'.getD i 0) : l = l' := by
  apply List.ext_getElem h
  intro i h1 h2
  have := he i h1
  simpa [List.getD, h1, h2] using this
theorem hideL_at (l ml : List UInt8) (p : Nat) (hp : 1 ≤ p) : ∀ n i, p + n ≤ l.length → (hideL l ml p n).getD i 0 = if i = 0 then l.getD 0 0 ^^^ ml.getD 0 0 else if p ≤ i ∧ i < p + n then l.getD i 0 ^^^ ml.getD (1 + (i - p)) 0 else l.getD i 0
  | 0, i, h => by
    unfold hideL
    rw [set_getD _ _ _ _ (by omega)]
    by_cases h0 : i = 0
    · rw [if_pos h0, if_pos h0]
    · rw [if_neg h0, if_neg h0, if_neg (by omega)]
  | n + 1, i, h => by
    unfold hideL
    rw [set_getD _ _ _ _ (by rw [hideL_len]; omega), hideL_at l ml p hp n i (by omega), hideL_at l ml p hp n (p + n) (by omega)]
    by_cases h0 : i = p + n
    · subst h0
      rw [if_pos rfl, if_neg (by omega), if_neg (by omega), if_neg (by omega), if_pos (by omega), show p + n - p = n by omega]
    · rw [if_neg h0]
      by_cases h1 : i = 0
      · rw [if_pos h1, if_pos h1]
      · rw [if_neg h1, if_neg h1]
        by_cases h2 : p ≤ i ∧ i < p + n
        · rw [if_pos h2, if_pos (by omega)]
        · rw [if_neg h2, if_neg (by omega)]
theorem samp_getD (l : List UInt8) (p i : Nat) : (sampL l p).getD i 0 = if i < 16 then l.getD (p + 4 + i) 0 else 0 := by
  unfold sampL
  simp only [List.getD, List.getElem?_take, List.getElem?_drop]
  split <;> rfl
theorem maskL_congr {K l l' : List UInt8} {p : Nat} (h0 : l.getD 0 0 &&& 128 = l'.getD 0 0 &&& 128) (hs : ∀ i, i < 16 → l.getD (p + 4 + i) 0 = l'.getD (p + 4 + i) 0) : maskL K l p = maskL K l' p := by
  have e : (fun i => (sampL l p).getD i 0) = fun i => (sampL l' p).getD i 0 := funext fun i => by
    rw [samp_getD, samp_getD]
    by_cases h : i < 16
    · rw [if_pos h, if_pos h, hs i h]
    · rw [if_neg h, if_neg h]
  unfold maskL maskF maskR
  rw [e, h0]
theorem u8_and_xor (a b c : UInt8) : (a &&& c) ^^^ (b &&& c) = (a ^^^ b) &&& c := by
  apply UInt8.toNat_inj.1
  apply Nat.eq_of_testBit_eq
  intro i
  simp only [UInt8.toNat_xor, UInt8.toNat_and, Nat.testBit_xor, Nat.testBit_and]
  cases a.toNat.testBit i <;> cases b.toNat.testBit i <;> cases c.toNat.testBit i <;> rfl
theorem mask_top (K l : List UInt8) (p : Nat) (x : UInt8) : (x ^^^ (maskL K l p).getD 0 0) &&& 128 = x &&& 128 := by
  rw [mask_head]
  have h1 : ∀ m : UInt8, (x ^^^ (m &&& 15)) &&& 128 = x &&& 128 := fun m => by
    rw [← u8_and_xor, UInt8.and_assoc, show (15 : UInt8) &&& 128 = 0 from rfl, UInt8.and_zero, UInt8.xor_zero]
  have h2 : ∀ m : UInt8, (x ^^^ (m &&& 31)) &&& 128 = x &&& 128 := fun m => by
    rw [← u8_and_xor, UInt8.and_assoc, show (31 : UInt8) &&& 128 = 0 from rfl, UInt8.and_zero, UInt8.xor_zero]
  split
  · exact h1 _
  · exact h2 _
theorem whole_back (nu e sz : Nat) (h1 : 1 ≤ sz) (h4 : sz ≤ 4) (hn : nu ≤ 4611686018427387903) (hlo : e ≤ nu + 2 ^ (8 * sz) / 4) (hhi : nu ≤ e + 2 ^ (8 * sz) / 4) : wholeN (nu % 2 ^ (8 * sz)) sz e = nu := by
  obtain ⟨hw1, hw2, hw3⟩ := pow_size sz h1 h4
  unfold wholeN
  generalize 2 ^ (8 * sz) = W at *
  have hB := Nat.div_add_mod nu W
  have hA := Nat.div_add_mod e W
  have hml := Nat.mod_lt nu (show 0 < W by omega)
  have hme := Nat.mod_lt e (show 0 < W by omega)
  rw [Nat.mul_comm] at hB hA
  have ha : e / W * W + e % W = e := hA
  have hb : nu / W * W + nu % W = nu := hB
  have hge : nu / W + 2 ≤ e / W → False := fun h => by
    have := Nat.mul_le_mul_right W h
    rw [Nat.add_mul] at this; omega
  have hle : e / W + 2 ≤ nu / W → False := fun h => by
    have := Nat.mul_le_mul_right W h
    rw [Nat.add_mul] at this; omega
  rcases Nat.lt_trichotomy (e / W) (nu / W) with h | h | h
  · have hq : nu / W = e / W + 1 := by
      rcases Nat.lt_or_ge (nu / W) (e / W + 2) with h2 | h2
      · omega
      · exact (hle h2).elim
    rw [hq, Nat.add_mul, Nat.one_mul] at hb
    rw [if_pos (by omega)]; omega
  · rw [h] at ha ⊢
    rw [if_neg (by omega), if_neg (by omega)]; omega
  · have hq : e / W = nu / W + 1 := by
      rcases Nat.lt_or_ge (e / W) (nu / W + 2) with h2 | h2
      · omega
      · exact (hge h2).elim
    rw [hq, Nat.add_mul, Nat.one_mul] at ha ⊢
    rw [if_neg (by omega), if_pos (by omega)]; omega
theorem sealE_ok {a b c : ByteArray} {hl : List UInt8} {size number : Int} {cn : Nat} (h : sealE a b c hl size number cn = 0) :
    1 ≤ size ∧ size ≤ 4 ∧ 0 ≤ number ∧ number ≤ 4611686018427387903 ∧ rightB a b c = true ∧ size + 1 ≤ hl.length ∧ (hl.getD 0 0).toNat % 4 = size.toNat - 1 ∧ lowN (hl.drop (hl.length - size.toNat)) size.toNat = number.toNat % 2 ^ (8 * size.toNat) ∧ 4 ≤ cn + size.toNat ∧ cn ≤ 65000 := by
  unfold sealE at h
  split at h
  · rename_i h1
    obtain ⟨a1, a2, a3, a4, a5, a6⟩ := h1
    split at h
    · rename_i h2
      split at h
      · cases h
      · split at h
        · cases h
        · exact ⟨a1, a2, a3, a4, a5, a6, h2.1, h2.2, by omega, by omega⟩
    · cases h
  · cases h
theorem app_l (a b : List UInt8) {i : Nat} (h : i < a.length) : (a ++ b).getD i 0 = a.getD i 0 := by simp only [List.getD, List.getElem?_append, h, if_true]
theorem xor8_twice (a b : UInt8) : a ^^^ b ^^^ b = a := by rw [UInt8.xor_assoc, UInt8.xor_self, UInt8.xor_zero]
section
variable {a b c : ByteArray} {hl cl : List UInt8} {sz nu : Nat}
structure Back (a b c : ByteArray) (hl cl : List UInt8) (sz nu : Nat) : Prop where
  s1 : 1 ≤ sz
  s4 : sz ≤ 4
  nb : nu ≤ 4611686018427387903
  rb : rightB a b c = true
  hl1 : sz + 1 ≤ hl.length
  first : (hl.getD 0 0).toNat % 4 = sz - 1
  low : lowN (hl.drop (hl.length - sz)) sz = nu % 2 ^ (8 * sz)
  tail : 4 ≤ cl.length + sz
theorem Back.of (h : sealE a b c hl (sz : Nat) (nu : Nat) cl.length = 0) : Back a b c hl cl sz nu := by
  obtain ⟨a1, a2, a3, a4, a5, a6, a7, a8, a9, a10⟩ := sealE_ok h
  have hm : ((sz : Nat) : Int).toNat = sz := by omega
  have hnm : ((nu : Nat) : Int).toNat = nu := by omega
  rw [hm] at a7 a8 a9
  rw [hnm] at a8
  exact ⟨by omega, by omega, by omega, a5, by omega, a7, a8, a9⟩
theorem Back.len (h : Back a b c hl cl sz nu) : hl.length - sz + 20 ≤ (sealOut a b c hl sz nu cl).length := by
  rw [sealOut_len]; have := h.hl1; have := h.tail; omega
theorem Back.at_ (h : Back a b c hl cl sz nu) (i : Nat) : (sealOut a b c hl sz nu cl).getD i 0 = if i = 0 then (sealBody a b hl nu cl).getD 0 0 ^^^ (maskL c.data.toList (sealBody a b hl nu cl) (hl.length - sz)).getD 0 0 else if hl.length - sz ≤ i ∧ i < hl.length - sz + sz then (sealBody a b hl nu cl).getD i 0 ^^^ (maskL c.data.toList (sealBody a b hl nu cl) (hl.length - sz)).getD (1 + (i - (hl.length - sz))) 0 else (sealBody a b hl nu cl).getD i 0 :=
  hideL_at _ _ _ (by have := h.hl1; omega) sz i (by rw [sealBody_len]; have := h.hl1; omega)
theorem Back.mask (h : Back a b c hl cl sz nu) : maskL c.data.toList (sealOut a b c hl sz nu cl) (hl.length - sz) = maskL c.data.toList (sealBody a b hl nu cl) (hl.length - sz) := by
  refine maskL_congr ?_ fun i hi => ?_
  · rw [h.at_ 0, if_pos rfl, mask_top]
  · rw [h.at_, if_neg (by omega), if_neg (by have := h.s4; have := h.hl1; omega)]
theorem Back.head0 (h : Back a b c hl cl sz nu) : (sealBody a b hl nu cl).getD 0 0 = hl.getD 0 0 := app_l _ _ (by have := h.hl1; omega)
theorem Back.size (h : Back a b c hl cl sz nu) : opSz c (sealOut a b c hl sz nu cl) (hl.length - sz) = sz := by
  unfold opSz
  rw [h.mask, h.at_ 0, if_pos rfl, xor8_twice, u8_and3, h.head0, h.first]
  have := h.s1; omega
theorem Back.bare (h : Back a b c hl cl sz nu) : opBare c (sealOut a b c hl sz nu cl) (hl.length - sz) = sealBody a b hl nu cl := by
  have hh := h.hl1
  unfold opBare
  rw [h.size, h.mask]
  refine getD_ext (by rw [hideL_len, sealOut_len, sealBody_len]) fun i hi => ?_
  rw [hideL_at _ _ _ (by omega) _ _ (by rw [sealOut_len]; omega), h.at_ i, h.at_ 0, if_pos rfl]
  by_cases h0 : i = 0
  · rw [if_pos h0, xor8_twice, h0]
  · rw [if_neg h0, if_neg h0]
    by_cases h1 : hl.length - sz ≤ i ∧ i < hl.length - sz + sz
    · rw [if_pos h1, if_pos h1, xor8_twice]
    · rw [if_neg h1, if_neg h1]
theorem lowN_congr {l l' : List UInt8} : ∀ n, (∀ i, i < n → l.getD i 0 = l'.getD i 0) → lowN l n = lowN l' n
  | 0, _ => rfl
  | n + 1, h => by rw [lowN_succ, lowN_succ, lowN_congr n fun i hi => h i (by omega), h n (by omega)]
theorem low_body (hl x : List UInt8) (sz : Nat) (h : sz ≤ hl.length) : lowN ((hl ++ x).drop (hl.length - sz)) sz = lowN (hl.drop (hl.length - sz)) sz :=
  lowN_congr sz fun i hi => by
    simp only [List.getD, List.getElem?_drop, List.getElem?_append]
    rw [if_pos (by omega)]
theorem Back.num (h : Back a b c hl cl sz nu) {e : Nat} (hlo : e ≤ nu + 2 ^ (8 * sz) / 4) (hhi : nu ≤ e + 2 ^ (8 * sz) / 4) : opNum c (sealOut a b c hl sz nu cl) (hl.length - sz) e = nu := by
  have hh := h.hl1
  unfold opNum
  rw [h.size, h.bare]
  unfold sealBody
  rw [low_body _ _ _ (by omega), h.low]
  exact whole_back nu e sz h.s1 h.s4 h.nb hlo hhi
theorem Back.head (h : Back a b c hl cl sz nu) : opHead c (sealOut a b c hl sz nu cl) (hl.length - sz) = hl := by
  have hh := h.hl1
  unfold opHead
  rw [h.size, h.bare, show hl.length - sz + sz = hl.length by omega]
  unfold sealBody
  exact List.take_left' rfl
theorem Back.rest (h : Back a b c hl cl sz nu) : opRest c (sealOut a b c hl sz nu cl) (hl.length - sz) = sealedL (keyF16 a) (hP (keyF16 a)) (nonL b.data.toList nu 8) hl cl := by
  have hh := h.hl1
  unfold opRest
  rw [h.size, h.bare, show hl.length - sz + sz = hl.length by omega]
  unfold sealBody
  exact List.drop_left' rfl
theorem Back.ok (h : Back a b c hl cl sz nu) {e : Nat} (hlo : e ≤ nu + 2 ^ (8 * sz) / 4) (hhi : nu ≤ e + 2 ^ (8 * sz) / 4) : opOk a b c (sealOut a b c hl sz nu cl) (hl.length - sz) e := by
  unfold opOk opBody
  rw [h.num hlo hhi, h.head, h.rest, sealed_take, sealed_drop]
theorem Back.out (h : Back a b c hl cl sz nu) {e : Nat} (hlo : e ≤ nu + 2 ^ (8 * sz) / 4) (hhi : nu ≤ e + 2 ^ (8 * sz) / 4) : opOut a b c (sealOut a b c hl sz nu cl) (hl.length - sz) e = cl := by
  unfold opOut opBody
  rw [h.num hlo hhi, h.rest, sealed_take, hid_twice]
theorem Back.openE (h : Back a b c hl cl sz nu) {e : Nat} (he : e ≤ 4611686018427387903) (hlo : e ≤ nu + 2 ^ (8 * sz) / 4) (hhi : nu ≤ e + 2 ^ (8 * sz) / 4) : openE a b c (sealOut a b c hl sz nu cl) ((hl.length - sz : Nat) : Int) (e : Nat) = 0 := by
  have hh := h.hl1
  have hlen := h.len
  unfold Go.Proofs.YtmoaddicejohgaaDoor.openE
  rw [if_pos ⟨by omega, by omega, by omega, h.rb⟩, if_pos (by omega), show (((hl.length - sz : Nat) : Int)).toNat = hl.length - sz by omega, show ((e : Nat) : Int).toNat = e by omega, if_pos (h.ok hlo hhi)]
def chgAt (l : List UInt8) (k : Nat) (x : UInt8) : List UInt8 := l.set k (l.getD k 0 ^^^ x)
theorem chgAt_len (l : List UInt8) (k : Nat) (x : UInt8) : (chgAt l k x).length = l.length := List.length_set
theorem chgAt_at (l : List UInt8) (k : Nat) (x : UInt8) (i : Nat) (hk : k < l.length) : (chgAt l k x).getD i 0 = if i = k then l.getD k 0 ^^^ x else l.getD i 0 := set_getD _ _ _ _ hk
variable {k : Nat} {x : UInt8}
theorem chg_mask {K l : List UInt8} {p : Nat} (hk : k < l.length) (hp : p + 20 ≤ k) : maskL K (chgAt l k x) p = maskL K l p := by
  refine maskL_congr ?_ fun i hi => ?_
  · rw [chgAt_at _ _ _ _ hk, if_neg (by omega)]
  · rw [chgAt_at _ _ _ _ hk, if_neg (by omega)]
theorem chg_size {l : List UInt8} {p : Nat} (hk : k < l.length) (hp : p + 20 ≤ k) : opSz c (chgAt l k x) p = opSz c l p := by
  unfold opSz
  rw [chg_mask hk hp, chgAt_at _ _ _ _ hk, if_neg (by omega)]
theorem chg_bare {l : List UInt8} {p : Nat} (h1 : 1 ≤ p) (hk : k < l.length) (hp : p + 20 ≤ k) : opBare c (chgAt l k x) p = chgAt (opBare c l p) k x := by
  have hz := opSz_lo c l p
  unfold opBare
  rw [chg_size hk hp, chg_mask hk hp]
  refine getD_ext (by rw [hideL_len, chgAt_len, chgAt_len, hideL_len]) fun i hi => ?_
  rw [hideL_at _ _ _ h1 _ _ (by rw [chgAt_len]; omega), chgAt_at _ _ _ _ hk, chgAt_at _ _ _ _ hk, chgAt_at _ _ _ _ (by rw [hideL_len]; exact hk), hideL_at _ _ _ h1 _ _ (by omega), hideL_at _ _ _ h1 _ _ (by omega)]
  by_cases h0 : i = 0
  · rw [if_pos h0, if_neg (by omega), if_neg (by omega), if_pos h0]
  · rw [if_neg h0, if_neg h0, if_neg (by omega : ¬ k = 0), if_neg (by omega : ¬ (p ≤ k ∧ k < p + opSz c l p))]
    by_cases h2 : i = k
    · subst h2; rw [if_pos rfl, if_neg (by omega), if_pos rfl]
    · rw [if_neg h2, if_neg h2]
theorem chg_take (l : List UInt8) (n : Nat) (h : n ≤ k) : (chgAt l k x).take n = l.take n := by
  unfold chgAt; rw [List.take_set_of_le h]
theorem chg_drop (l : List UInt8) (n : Nat) (h : n ≤ k) : (chgAt l k x).drop n = chgAt (l.drop n) (k - n) x := by
  unfold chgAt
  rw [List.drop_set, if_neg (by omega)]
  congr 2
  simp only [List.getD, List.getElem?_drop]
  rw [show n + (k - n) = k by omega]
theorem Back.spoilt (h : Back a b c hl cl sz nu) (hk : k < (sealOut a b c hl sz nu cl).length) (hp : hl.length - sz + 20 ≤ k) (hx : x ≠ 0) {e : Nat} (hlo : e ≤ nu + 2 ^ (8 * sz) / 4) (hhi : nu ≤ e + 2 ^ (8 * sz) / 4)
    (ho : opOk a b c (chgAt (sealOut a b c hl sz nu cl) k x) (hl.length - sz) e) : hP (keyF16 a) = (0, 0) := by
  have hh := h.hl1
  have h4 := h.s4
  have hbare := chg_bare (c := c) (x := x) (show 1 ≤ hl.length - sz by omega) hk hp
  have hsz := chg_size (c := c) (x := x) hk hp
  rw [h.bare] at hbare
  rw [h.size] at hsz
  have hpz : hl.length - sz + sz = hl.length := by omega
  have hhead : opHead c (chgAt (sealOut a b c hl sz nu cl) k x) (hl.length - sz) = hl := by
    unfold opHead
    rw [hsz, hbare, hpz, chg_take _ _ (by omega)]
    unfold sealBody; exact List.take_left' rfl
  have hrest : opRest c (chgAt (sealOut a b c hl sz nu cl) k x) (hl.length - sz) = chgAt (sealedL (keyF16 a) (hP (keyF16 a)) (nonL b.data.toList nu 8) hl cl) (k - hl.length) x := by
    unfold opRest
    rw [hsz, hbare, hpz, chg_drop _ _ (by omega)]
    unfold sealBody; rw [List.drop_left' rfl]
  have hnum : opNum c (chgAt (sealOut a b c hl sz nu cl) k x) (hl.length - sz) e = nu := by
    unfold opNum
    rw [hsz, hbare]
    have e1 : lowN ((chgAt (sealBody a b hl nu cl) k x).drop (hl.length - sz)) sz = lowN ((sealBody a b hl nu cl).drop (hl.length - sz)) sz := lowN_congr sz fun i hi => by
      have := chgAt_at (sealBody a b hl nu cl) k x (hl.length - sz + i) (by rw [sealBody_len]; rw [sealOut_len] at hk; exact hk)
      rw [if_neg (by omega)] at this
      simp only [List.getD, List.getElem?_drop] at this ⊢
      exact this
    rw [e1]
    unfold sealBody
    rw [low_body _ _ _ (by omega), h.low]
    exact whole_back nu e sz h.s1 h.s4 h.nb hlo hhi
  have hkl : k - hl.length < (sealedL (keyF16 a) (hP (keyF16 a)) (nonL b.data.toList nu 8) hl cl).length := by
    rw [sealedL_len]; rw [sealOut_len] at hk; omega
  refine spoilt_law (K := keyF16 a) (nl := nonL b.data.toList nu 8) (al := hl) (bl := cl) (k := k - hl.length) (x := x) (by omega) hx ?_
  unfold toldEq spoC spoS
  rw [if_pos hkl, if_pos hkl]
  unfold opOk opBody at ho
  rw [hnum, hhead, hrest] at ho
  exact ho
end
end Go.Proofs.YtmoaddicejohgaaDoor
