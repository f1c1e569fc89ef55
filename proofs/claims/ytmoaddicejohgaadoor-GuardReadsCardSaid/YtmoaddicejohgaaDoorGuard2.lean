/- Walks of guard: right, nonce, low, Clone; of the document's Right, nonce. No further conditions. -/
import Derived.Test.YtmoaddicejohgaaDoorGuard0
set_option linter.unusedSimpArgs false
set_option linter.unusedVariables false
set_option maxRecDepth 100000
set_option maxHeartbeats 4000000
namespace Go.Proofs.YtmoaddicejohgaaDoor
open Go
open List (getD_cons_zero getD_cons_succ set_cons_zero set_cons_succ)

def rightB (a b c : ByteArray) : Bool := a.size == 16 && (b.size == 12 && c.size == 16)
/-- A nonce, byte by byte. -/
def nonL (l : List UInt8) (n : Nat) : Nat → List UInt8
  | 0 => l
  | i + 1 => (nonL l n i).set (11 - i) ((nonL l n i).getD (11 - i) 0 ^^^ UInt8.ofNat (n / 2 ^ (8 * i)))
@[simp] theorem nonL_len (l : List UInt8) (n i : Nat) : (nonL l n i).length = l.length := by
  induction i with
  | zero => rfl
  | succ i ih => simp [nonL, ih]

theorem right_a (a b c : ByteArray) (w : World) (h : a.size ≠ 16) : Ret Tryd.prog 27 #[.agg #[.string a, .string b, .string c]] w fun v w' => v = BV false ∧ Chg [] w w' := by
 refine Ret.enter Tryd.func27 rfl ?_
 simp only [Tryd.ntmps27, fe, Nat.reduceAdd, Nat.reduceSub]
 have hH := Hp.start [] w
 refine wp_seq_k ?_
 intro K1 hK1
 refine wrt [.x 0, .p 1] ?_
 refine plan_box rfl rfl hH rfl ?_
 clear hH
 intro b2 w3 hH
 (try simp only [nf, nh, Value.cells, arrB_set] at hH ⊢)
 refine pa ?_;simp only [nf]
 refine plan_nil hH ?_
 clear hH
 intro w4 hH
 refine hK1 _ _ ?_
 (try clear hK1 K1)
 refine wp_seq_k ?_
 intro K5 hK5
 refine wrt [.p 0, .q 1, .p 2, .p 3, .p 4, .p 5, .q 6, .p 7, .p 8, .p 9, .p 10, .p 11, .q 12, .p 13, .p 14, .p 15, .p 16] ?_
 refine pp rfl rfl (pr_fieldAddr 0 rfl Tryd.underlying37 rfl rfl sz9) ?_;simp only [nf]
 refine pq rfl rfl (qr_load1 rfl Tryd.underlying9 rfl ((hH.blk 0 rfl).cell rfl)) ?_;simp only [nf]
 refine pp rfl rfl (pr_len_str rfl Tryd.underlying9) ?_;simp only [nf]
 refine pp rfl rfl (pr_bin rfl rfl (by first | exact bin_eql_n (n := 16)  | exact bin_eql_i)) ?_;simp only [nf]
 refine plan_p (v := BV false) rfl rfl (pr_move_v (by show BV _ = _; exact congrArg BV (beq_eq_false_iff_ne.2 h))) ?_
 (try simp only [nf])
 refine plan_ps rfl rfl ?_
 (try simp only [nf])
 refine plan_qs rfl rfl ?_
 (try simp only [nf])
 refine plan_ps rfl rfl ?_
 (try simp only [nf])
 refine plan_ps rfl rfl ?_
 (try simp only [nf])
 refine pp rfl rfl (pr_pick_f rfl) ?_;simp only [nf]
 refine plan_p (v := BV false) rfl rfl (pr_move_v rfl) ?_
 (try simp only [nf])
 refine plan_ps rfl rfl ?_
 (try simp only [nf])
 refine plan_qs rfl rfl ?_
 (try simp only [nf])
 refine plan_ps rfl rfl ?_
 (try simp only [nf])
 refine plan_ps rfl rfl ?_
 (try simp only [nf])
 refine pp rfl rfl (pr_pick_f rfl) ?_;simp only [nf]
 refine pa ?_;simp only [nf]
 refine plan_nil hH ?_
 clear hH
 intro w6 hH
 refine hK5 _ _ ?_
 (try clear hK5 K5)
 refine wp_ret ?_
 (try simp only [Exit.then, Exit.inBlock, ↓reduceIte, Nat.reduceEqDiff])
 refine BP.ret1 rfl rfl ?_
 exact ⟨rfl, hH.chg⟩

theorem right_b (a b c : ByteArray) (w : World) (h : a.size = 16) (h2 : b.size ≠ 12) : Ret Tryd.prog 27 #[.agg #[.string a, .string b, .string c]] w fun v w' => v = BV false ∧ Chg [] w w' := by
 refine Ret.enter Tryd.func27 rfl ?_
 simp only [Tryd.ntmps27, fe, Nat.reduceAdd, Nat.reduceSub]
 have hH := Hp.start [] w
 refine wp_seq_k ?_
 intro K1 hK1
 refine wrt [.x 0, .p 1] ?_
 refine plan_box rfl rfl hH rfl ?_
 clear hH
 intro b2 w3 hH
 (try simp only [nf, nh, Value.cells, arrB_set] at hH ⊢)
 refine pa ?_;simp only [nf]
 refine plan_nil hH ?_
 clear hH
 intro w4 hH
 refine hK1 _ _ ?_
 (try clear hK1 K1)
 refine wp_seq_k ?_
 intro K5 hK5
 refine wrt [.p 0, .q 1, .p 2, .p 3, .p 4, .p 5, .q 6, .p 7, .p 8, .p 9, .p 10, .p 11, .q 12, .p 13, .p 14, .p 15, .p 16] ?_
 refine pp rfl rfl (pr_fieldAddr 0 rfl Tryd.underlying37 rfl rfl sz9) ?_;simp only [nf]
 refine pq rfl rfl (qr_load1 rfl Tryd.underlying9 rfl ((hH.blk 0 rfl).cell rfl)) ?_;simp only [nf]
 refine pp rfl rfl (pr_len_str rfl Tryd.underlying9) ?_;simp only [nf]
 refine pp rfl rfl (pr_bin rfl rfl (by first | exact bin_eql_n (n := 16)  | exact bin_eql_i)) ?_;simp only [nf]
 refine plan_p (v := BV true) rfl rfl (pr_move_v (by show BV _ = _; exact congrArg BV (beq_iff_eq.2 h))) ?_
 (try simp only [nf])
 refine pp rfl rfl (pr_fieldAddr 1 rfl Tryd.underlying37 rfl rfl sz9) ?_;simp only [nf]
 refine pq rfl rfl (qr_load1 rfl Tryd.underlying9 rfl ((hH.blk 0 rfl).cell rfl)) ?_;simp only [nf]
 refine pp rfl rfl (pr_len_str rfl Tryd.underlying9) ?_;simp only [nf]
 refine pp rfl rfl (pr_bin rfl rfl (by first | exact bin_eql_n (n := 12)  | exact bin_eql_i)) ?_;simp only [nf]
 refine pp rfl rfl (pr_pick_t rfl) ?_;simp only [nf]
 refine plan_p (v := BV false) rfl rfl (pr_move_v (by show BV _ = _; exact congrArg BV (beq_eq_false_iff_ne.2 h2))) ?_
 (try simp only [nf])
 refine plan_ps rfl rfl ?_
 (try simp only [nf])
 refine plan_qs rfl rfl ?_
 (try simp only [nf])
 refine plan_ps rfl rfl ?_
 (try simp only [nf])
 refine plan_ps rfl rfl ?_
 (try simp only [nf])
 refine pp rfl rfl (pr_pick_f rfl) ?_;simp only [nf]
 refine pa ?_;simp only [nf]
 refine plan_nil hH ?_
 clear hH
 intro w6 hH
 refine hK5 _ _ ?_
 (try clear hK5 K5)
 refine wp_ret ?_
 (try simp only [Exit.then, Exit.inBlock, ↓reduceIte, Nat.reduceEqDiff])
 refine BP.ret1 rfl rfl ?_
 exact ⟨rfl, hH.chg⟩

theorem right_c (a b c : ByteArray) (w : World) (h : a.size = 16) (h2 : b.size = 12) : Ret Tryd.prog 27 #[.agg #[.string a, .string b, .string c]] w fun v w' => v = BV (c.size == 16) ∧ Chg [] w w' := by
 refine Ret.enter Tryd.func27 rfl ?_
 simp only [Tryd.ntmps27, fe, Nat.reduceAdd, Nat.reduceSub]
 have hH := Hp.start [] w
 refine wp_seq_k ?_
 intro K1 hK1
 refine wrt [.x 0, .p 1] ?_
 refine plan_box rfl rfl hH rfl ?_
 clear hH
 intro b2 w3 hH
 (try simp only [nf, nh, Value.cells, arrB_set] at hH ⊢)
 refine pa ?_;simp only [nf]
 refine plan_nil hH ?_
 clear hH
 intro w4 hH
 refine hK1 _ _ ?_
 (try clear hK1 K1)
 refine wp_seq_k ?_
 intro K5 hK5
 refine wrt [.p 0, .q 1, .p 2, .p 3, .p 4, .p 5, .q 6, .p 7, .p 8, .p 9, .p 10, .p 11, .q 12, .p 13, .p 14, .p 15, .p 16] ?_
 refine pp rfl rfl (pr_fieldAddr 0 rfl Tryd.underlying37 rfl rfl sz9) ?_;simp only [nf]
 refine pq rfl rfl (qr_load1 rfl Tryd.underlying9 rfl ((hH.blk 0 rfl).cell rfl)) ?_;simp only [nf]
 refine pp rfl rfl (pr_len_str rfl Tryd.underlying9) ?_;simp only [nf]
 refine pp rfl rfl (pr_bin rfl rfl (by first | exact bin_eql_n (n := 16)  | exact bin_eql_i)) ?_;simp only [nf]
 refine plan_p (v := BV true) rfl rfl (pr_move_v (by show BV _ = _; exact congrArg BV (beq_iff_eq.2 h))) ?_
 (try simp only [nf])
 refine pp rfl rfl (pr_fieldAddr 1 rfl Tryd.underlying37 rfl rfl sz9) ?_;simp only [nf]
 refine pq rfl rfl (qr_load1 rfl Tryd.underlying9 rfl ((hH.blk 0 rfl).cell rfl)) ?_;simp only [nf]
 refine pp rfl rfl (pr_len_str rfl Tryd.underlying9) ?_;simp only [nf]
 refine pp rfl rfl (pr_bin rfl rfl (by first | exact bin_eql_n (n := 12)  | exact bin_eql_i)) ?_;simp only [nf]
 refine pp rfl rfl (pr_pick_t rfl) ?_;simp only [nf]
 refine plan_p (v := BV true) rfl rfl (pr_move_v (by show BV _ = _; exact congrArg BV (beq_iff_eq.2 h2))) ?_
 (try simp only [nf])
 refine pp rfl rfl (pr_fieldAddr 2 rfl Tryd.underlying37 rfl rfl sz9) ?_;simp only [nf]
 refine pq rfl rfl (qr_load1 rfl Tryd.underlying9 rfl ((hH.blk 0 rfl).cell rfl)) ?_;simp only [nf]
 refine pp rfl rfl (pr_len_str rfl Tryd.underlying9) ?_;simp only [nf]
 refine pp rfl rfl (pr_bin rfl rfl (by first | exact bin_eql_n (n := 16)  | exact bin_eql_i)) ?_;simp only [nf]
 refine pp rfl rfl (pr_pick_t rfl) ?_;simp only [nf]
 refine pa ?_;simp only [nf]
 refine plan_nil hH ?_
 clear hH
 intro w6 hH
 refine hK5 _ _ ?_
 (try clear hK5 K5)
 refine wp_ret ?_
 (try simp only [Exit.then, Exit.inBlock, ↓reduceIte, Nat.reduceEqDiff])
 refine BP.ret1 rfl rfl ?_
 exact ⟨rfl, hH.chg⟩

theorem right_calls (a b c : ByteArray) (w : World) : Ret Tryd.prog 27 #[.agg #[.string a, .string b, .string c]] w fun v w' => v = BV (rightB a b c) ∧ Chg [] w w' := by
  unfold rightB
  by_cases h : a.size = 16
  · by_cases h2 : b.size = 12
    · rw [beq_iff_eq.2 h, beq_iff_eq.2 h2]; exact right_c a b c w h h2
    · rw [beq_iff_eq.2 h, beq_eq_false_iff_ne.2 h2]; exact right_b a b c w h h2
  · rw [beq_eq_false_iff_ne.2 h]; exact right_a a b c w h

theorem docright_a (a b c : ByteArray) (w : World) (h : a.size ≠ 16) : Ret Tryd.prog 24 #[.agg #[.string a, .string b, .string c]] w fun v w' => v = BV false ∧ Chg [] w w' := by
 refine Ret.enter Tryd.func24 rfl ?_
 simp only [Tryd.ntmps24, fe, Nat.reduceAdd, Nat.reduceSub]
 have hH := Hp.start [] w
 refine wp_seq_k ?_
 intro K1 hK1
 refine wrt [.x 0, .p 1] ?_
 refine plan_box rfl rfl hH rfl ?_
 clear hH
 intro b2 w3 hH
 (try simp only [nf, nh, Value.cells, arrB_set] at hH ⊢)
 refine pa ?_;simp only [nf]
 refine plan_nil hH ?_
 clear hH
 intro w4 hH
 refine hK1 _ _ ?_
 (try clear hK1 K1)
 refine wp_seq_k ?_
 intro K5 hK5
 refine wrt [.p 0, .q 1, .p 2, .p 3, .p 4, .p 5, .q 6, .p 7, .p 8, .p 9, .p 10, .p 11, .q 12, .p 13, .p 14, .p 15, .p 16] ?_
 refine pp rfl rfl (pr_fieldAddr 0 rfl Tryd.underlying30 rfl rfl sz9) ?_;simp only [nf]
 refine pq rfl rfl (qr_load1 rfl Tryd.underlying9 rfl ((hH.blk 0 rfl).cell rfl)) ?_;simp only [nf]
 refine pp rfl rfl (pr_len_str rfl Tryd.underlying9) ?_;simp only [nf]
 refine pp rfl rfl (pr_bin rfl rfl (by first | exact bin_eql_n (n := 16)  | exact bin_eql_i)) ?_;simp only [nf]
 refine plan_p (v := BV false) rfl rfl (pr_move_v (by show BV _ = _; exact congrArg BV (beq_eq_false_iff_ne.2 h))) ?_
 (try simp only [nf])
 refine plan_ps rfl rfl ?_
 (try simp only [nf])
 refine plan_qs rfl rfl ?_
 (try simp only [nf])
 refine plan_ps rfl rfl ?_
 (try simp only [nf])
 refine plan_ps rfl rfl ?_
 (try simp only [nf])
 refine pp rfl rfl (pr_pick_f rfl) ?_;simp only [nf]
 refine plan_p (v := BV false) rfl rfl (pr_move_v rfl) ?_
 (try simp only [nf])
 refine plan_ps rfl rfl ?_
 (try simp only [nf])
 refine plan_qs rfl rfl ?_
 (try simp only [nf])
 refine plan_ps rfl rfl ?_
 (try simp only [nf])
 refine plan_ps rfl rfl ?_
 (try simp only [nf])
 refine pp rfl rfl (pr_pick_f rfl) ?_;simp only [nf]
 refine pa ?_;simp only [nf]
 refine plan_nil hH ?_
 clear hH
 intro w6 hH
 refine hK5 _ _ ?_
 (try clear hK5 K5)
 refine wp_ret ?_
 (try simp only [Exit.then, Exit.inBlock, ↓reduceIte, Nat.reduceEqDiff])
 refine BP.ret1 rfl rfl ?_
 exact ⟨rfl, hH.chg⟩

theorem docright_b (a b c : ByteArray) (w : World) (h : a.size = 16) (h2 : b.size ≠ 12) : Ret Tryd.prog 24 #[.agg #[.string a, .string b, .string c]] w fun v w' => v = BV false ∧ Chg [] w w' := by
 refine Ret.enter Tryd.func24 rfl ?_
 simp only [Tryd.ntmps24, fe, Nat.reduceAdd, Nat.reduceSub]
 have hH := Hp.start [] w
 refine wp_seq_k ?_
 intro K1 hK1
 refine wrt [.x 0, .p 1] ?_
 refine plan_box rfl rfl hH rfl ?_
 clear hH
 intro b2 w3 hH
 (try simp only [nf, nh, Value.cells, arrB_set] at hH ⊢)
 refine pa ?_;simp only [nf]
 refine plan_nil hH ?_
 clear hH
 intro w4 hH
 refine hK1 _ _ ?_
 (try clear hK1 K1)
 refine wp_seq_k ?_
 intro K5 hK5
 refine wrt [.p 0, .q 1, .p 2, .p 3, .p 4, .p 5, .q 6, .p 7, .p 8, .p 9, .p 10, .p 11, .q 12, .p 13, .p 14, .p 15, .p 16] ?_
 refine pp rfl rfl (pr_fieldAddr 0 rfl Tryd.underlying30 rfl rfl sz9) ?_;simp only [nf]
 refine pq rfl rfl (qr_load1 rfl Tryd.underlying9 rfl ((hH.blk 0 rfl).cell rfl)) ?_;simp only [nf]
 refine pp rfl rfl (pr_len_str rfl Tryd.underlying9) ?_;simp only [nf]
 refine pp rfl rfl (pr_bin rfl rfl (by first | exact bin_eql_n (n := 16)  | exact bin_eql_i)) ?_;simp only [nf]
 refine plan_p (v := BV true) rfl rfl (pr_move_v (by show BV _ = _; exact congrArg BV (beq_iff_eq.2 h))) ?_
 (try simp only [nf])
 refine pp rfl rfl (pr_fieldAddr 1 rfl Tryd.underlying30 rfl rfl sz9) ?_;simp only [nf]
 refine pq rfl rfl (qr_load1 rfl Tryd.underlying9 rfl ((hH.blk 0 rfl).cell rfl)) ?_;simp only [nf]
 refine pp rfl rfl (pr_len_str rfl Tryd.underlying9) ?_;simp only [nf]
 refine pp rfl rfl (pr_bin rfl rfl (by first | exact bin_eql_n (n := 12)  | exact bin_eql_i)) ?_;simp only [nf]
 refine pp rfl rfl (pr_pick_t rfl) ?_;simp only [nf]
 refine plan_p (v := BV false) rfl rfl (pr_move_v (by show BV _ = _; exact congrArg BV (beq_eq_false_iff_ne.2 h2))) ?_
 (try simp only [nf])
 refine plan_ps rfl rfl ?_
 (try simp only [nf])
 refine plan_qs rfl rfl ?_
 (try simp only [nf])
 refine plan_ps rfl rfl ?_
 (try simp only [nf])
 refine plan_ps rfl rfl ?_
 (try simp only [nf])
 refine pp rfl rfl (pr_pick_f rfl) ?_;simp only [nf]
 refine pa ?_;simp only [nf]
 refine plan_nil hH ?_
 clear hH
 intro w6 hH
 refine hK5 _ _ ?_
 (try clear hK5 K5)
 refine wp_ret ?_
 (try simp only [Exit.then, Exit.inBlock, ↓reduceIte, Nat.reduceEqDiff])
 refine BP.ret1 rfl rfl ?_
 exact ⟨rfl, hH.chg⟩

theorem docright_c (a b c : ByteArray) (w : World) (h : a.size = 16) (h2 : b.size = 12) : Ret Tryd.prog 24 #[.agg #[.string a, .string b, .string c]] w fun v w' => v = BV (c.size == 16) ∧ Chg [] w w' := by
 refine Ret.enter Tryd.func24 rfl ?_
 simp only [Tryd.ntmps24, fe, Nat.reduceAdd, Nat.reduceSub]
 have hH := Hp.start [] w
 refine wp_seq_k ?_
 intro K1 hK1
 refine wrt [.x 0, .p 1] ?_
 refine plan_box rfl rfl hH rfl ?_
 clear hH
 intro b2 w3 hH
 (try simp only [nf, nh, Value.cells, arrB_set] at hH ⊢)
 refine pa ?_;simp only [nf]
 refine plan_nil hH ?_
 clear hH
 intro w4 hH
 refine hK1 _ _ ?_
 (try clear hK1 K1)
 refine wp_seq_k ?_
 intro K5 hK5
 refine wrt [.p 0, .q 1, .p 2, .p 3, .p 4, .p 5, .q 6, .p 7, .p 8, .p 9, .p 10, .p 11, .q 12, .p 13, .p 14, .p 15, .p 16] ?_
 refine pp rfl rfl (pr_fieldAddr 0 rfl Tryd.underlying30 rfl rfl sz9) ?_;simp only [nf]
 refine pq rfl rfl (qr_load1 rfl Tryd.underlying9 rfl ((hH.blk 0 rfl).cell rfl)) ?_;simp only [nf]
 refine pp rfl rfl (pr_len_str rfl Tryd.underlying9) ?_;simp only [nf]
 refine pp rfl rfl (pr_bin rfl rfl (by first | exact bin_eql_n (n := 16)  | exact bin_eql_i)) ?_;simp only [nf]
 refine plan_p (v := BV true) rfl rfl (pr_move_v (by show BV _ = _; exact congrArg BV (beq_iff_eq.2 h))) ?_
 (try simp only [nf])
 refine pp rfl rfl (pr_fieldAddr 1 rfl Tryd.underlying30 rfl rfl sz9) ?_;simp only [nf]
 refine pq rfl rfl (qr_load1 rfl Tryd.underlying9 rfl ((hH.blk 0 rfl).cell rfl)) ?_;simp only [nf]
 refine pp rfl rfl (pr_len_str rfl Tryd.underlying9) ?_;simp only [nf]
 refine pp rfl rfl (pr_bin rfl rfl (by first | exact bin_eql_n (n := 12)  | exact bin_eql_i)) ?_;simp only [nf]
 refine pp rfl rfl (pr_pick_t rfl) ?_;simp only [nf]
 refine plan_p (v := BV true) rfl rfl (pr_move_v (by show BV _ = _; exact congrArg BV (beq_iff_eq.2 h2))) ?_
 (try simp only [nf])
 refine pp rfl rfl (pr_fieldAddr 2 rfl Tryd.underlying30 rfl rfl sz9) ?_;simp only [nf]
 refine pq rfl rfl (qr_load1 rfl Tryd.underlying9 rfl ((hH.blk 0 rfl).cell rfl)) ?_;simp only [nf]
 refine pp rfl rfl (pr_len_str rfl Tryd.underlying9) ?_;simp only [nf]
 refine pp rfl rfl (pr_bin rfl rfl (by first | exact bin_eql_n (n := 16)  | exact bin_eql_i)) ?_;simp only [nf]
 refine pp rfl rfl (pr_pick_t rfl) ?_;simp only [nf]
 refine pa ?_;simp only [nf]
 refine plan_nil hH ?_
 clear hH
 intro w6 hH
 refine hK5 _ _ ?_
 (try clear hK5 K5)
 refine wp_ret ?_
 (try simp only [Exit.then, Exit.inBlock, ↓reduceIte, Nat.reduceEqDiff])
 refine BP.ret1 rfl rfl ?_
 exact ⟨rfl, hH.chg⟩

theorem docright_calls (a b c : ByteArray) (w : World) : Ret Tryd.prog 24 #[.agg #[.string a, .string b, .string c]] w fun v w' => v = BV (rightB a b c) ∧ Chg [] w w' := by
  unfold rightB
  by_cases h : a.size = 16
  · by_cases h2 : b.size = 12
    · rw [beq_iff_eq.2 h, beq_iff_eq.2 h2]; exact docright_c a b c w h h2
    · rw [beq_iff_eq.2 h, beq_eq_false_iff_ne.2 h2]; exact docright_b a b c w h h2
  · rw [beq_eq_false_iff_ne.2 h]; exact docright_a a b c w h

theorem nonce_calls (a b c : ByteArray) (n : Nat) (w : World) (hb : b.size = 12) (hn : n < 9223372036854775808) : Ret Tryd.prog 29 #[.agg #[.string a, .string b, .string c], I64 n] w fun v w' => ∃ o cap cs, v = own o 12 cap ∧ Chg [] w w' ∧ OwnC o 12 cap 1 cs ((nonL b.data.toList n 8).map V8) ∧ ∀ b, o = some b → w.heap.size ≤ b ∧ Blk w' b 5 cs := by
 have hsl : b.data.toList.length = b.size := by simp
 refine Ret.enter Tryd.func29 rfl ?_
 simp only [Tryd.ntmps29, fe, Nat.reduceAdd, Nat.reduceSub]
 have hH := Hp.start [] w
 refine wp_seq_k ?_
 intro K1 hK1
 refine wrt [.x 0, .p 1] ?_
 refine plan_box rfl rfl hH rfl ?_
 clear hH
 intro b2 w3 hH
 (try simp only [nf, nh, Value.cells, arrB_set] at hH ⊢)
 refine pa ?_;simp only [nf]
 refine plan_nil hH ?_
 clear hH
 intro w4 hH
 refine hK1 _ _ ?_
 (try clear hK1 K1)
 refine wp_seq_k ?_
 intro K5 hK5
 refine wrt [.p 0, .q 1, .x 2, .p 3] ?_
 refine pp rfl rfl (pr_fieldAddr 1 rfl Tryd.underlying37 rfl rfl sz9) ?_;simp only [nf]
 refine pq rfl rfl (qr_load1 rfl Tryd.underlying9 rfl ((hH.blk 0 rfl).cell rfl)) ?_;simp only [nf]
 refine plan_s2b rfl rfl hH rfl Tryd.underlying9 Tryd.underlying22 Tryd.underlying5 ?_
 clear hH
 intro b6 cap7 cs8 w9 hO10 hH
 (try simp only [nf] at hH ⊢)
 (try simp only [nf, nh, Value.cells, arrB_set] at hH ⊢)
 refine pa ?_;simp only [nf]
 refine plan_nil hH ?_
 clear hH
 intro w11 hH
 refine hK5 _ _ ?_
 (try clear hK5 K5)
 refine wp_seq_k ?_
 intro K12 hK12
 refine wp_seq_k ?_
 intro K13 hK13
 refine wrt [.p 0] ?_
 refine pk 0 ?_;simp only [nf]
 refine plan_nil hH ?_
 clear hH
 intro w14 hH
 refine hK13 _ _ ?_
 (try clear hK13 K13)
 refine wp_block ?_
 obtain ⟨kc15, hkc16, hN⟩ := hH.name 0 rfl
 replace hH := hN; clear hN; simp only [List.set_cons_zero, List.set_cons_succ] at hH
 refine wp_loopT [10] [6, 11, 12, 13, 14, 15, 16, 17, 18, 19, 20, 21, 22, 23, 24, 25] (fun (n17 : Nat) (vs : List Value) (w' : World) => ∃ (i : Nat) (cs : Array Value), vs = [I64 (i : Nat)] ∧ Hp [] w w' [(some b2, 37, kc15), (some b6, 5, cs)] ∧ n17 = 8 - i ∧ i ≤ 8 ∧ OwnC (some b6) b.size cap7 1 cs ((nonL b.data.toList n i).map V8)) (8 - 0) (by kernel_rfl) ?_ ?_
 ·
  simp only [ga]
  refine ⟨0, cs8, rfl, ?_, rfl, ?_, ?_⟩
  ·
   exact hH
  · first | omega | (omega)
  · first | omega | (exact hO10)
 clear hH
 intro n17 vs18 w19 hR20 d0
 obtain ⟨i, cs, rfl, hH, hn21, hf22, hO⟩ := hR20
 simp only [putAll, putD, List.set_cons_zero, List.set_cons_succ, Nat.zero_add, Nat.reduceAdd]
 subst hkc16
 refine wp_seq_k ?_
 intro K23 hK23
 refine wrt [.p 0] ?_
 refine pp rfl rfl (pr_bin rfl rfl (by first | exact bin_lss_n (n := 8)  | exact bin_lss_i)) ?_;simp only [nf]
 refine plan_nil hH ?_
 clear hH
 intro w24 hH
 refine hK23 _ _ ?_
 (try clear hK23 K23)
 refine wp_seq_k ?_
 intro K25 hK25
 refine wp_cond_split rfl (fun hc26 => ?_) (fun hc26 => ?_)
 ·
  (try simp only [cnd] at hc26)
  refine wp_skip ?_
  refine hK25 _ _ ?_
  (try clear hK25 K25)
  refine wp_seq_k ?_
  intro K27 hK27
  refine wp_block ?_
  refine wp_seq_k ?_
  intro K28 hK28
  refine wrt [.p 0, .p 1] ?_
  refine pm (pa ?_);simp only [nf]
  refine plan_nil hH ?_
  clear hH
  intro w29 hH
  refine hK28 _ _ ?_
  (try clear hK28 K28)
  refine wrp [.p 0, .p 1, .p 2, .p 3, .p 5, .p 6, .p 7, .p 8, .p 9, .q 4, .p 10, .p 11, .e 12] ?_
  refine pm (pm ?_);simp only [nf]
  refine pp rfl rfl (pr_bin rfl rfl (by first | exact bin_sub_n (m := 11) (by first | omega | (simp <;> omega)) (by first | omega | (simp <;> omega)) | exact bin_sub_i (by first | omega | (simp <;> omega)) (by first | omega | (simp <;> omega)))) ?_;simp only [nf]
  refine pp rfl rfl (pr_idx_Sl (OwnC.sl hH 1 rfl hO) rfl rfl Tryd.underlying22 sz5 (by first | omega | (simp <;> omega))) ?_;simp only [nf]
  refine pm (pm ?_);simp only [nf]
  refine pp rfl rfl (pr_bin rfl rfl (by first | exact bin_mul_n (m := 8) (by first | omega | (simp <;> omega)) | exact bin_mul_i (by first | omega | (simp <;> omega)) (by first | omega | (simp <;> omega)))) ?_;simp only [nf]
  refine pp rfl rfl (pr_bin rfl rfl (by first | exact bin_shr_n (by first | omega | (simp <;> omega)) | exact bin_shr_i (by first | omega | (simp <;> omega)))) ?_;simp only [nf]
  refine pp rfl rfl (pr_conv rfl (by first | exact cnv_n_u8 Tryd.underlying3 Tryd.underlying5 | exact cnv_i_u8 Tryd.underlying3 Tryd.underlying5)) ?_;simp only [nf]
  refine pq rfl rfl (qr_load1 rfl Tryd.underlying5 rfl (Sl.cell (OwnC.sl hH 1 rfl hO) (by first | omega | (simp <;> omega)))) ?_;simp only [nf]
  refine pp rfl rfl (pr_bin rfl rfl (bin_xor_u8 _ _)) ?_;simp only [nf]
  refine pp rfl rfl (pr_idx_Sl (OwnC.sl hH 1 rfl hO) rfl rfl Tryd.underlying22 sz5 (by first | omega | (simp <;> omega))) ?_;simp only [nf]
  refine plan_storeO 1 rfl rfl hH rfl rfl hO rfl sz5 (by first | omega | (simp <;> omega)) ?_
  clear hH
  intro cs31 w30 hO32 hH
  (try simp only [nf, nh, Value.cells, arrB_set] at hH ⊢)
  refine plan_nil hH ?_
  clear hH
  intro w33 hH
  refine hK27 _ _ ?_
  (try clear hK27 K27)
  refine wrt [.p 0, .p 1] ?_
  refine pp rfl rfl (pr_bin rfl rfl (by first | exact bin_add_n (n := 1) (by first | omega | (simp <;> omega)) | exact bin_add_i (by first | omega | (simp <;> omega)) (by first | omega | (simp <;> omega)))) ?_;simp only [nf]
  refine pm ?_;simp only [nf]
  refine plan_nil hH ?_
  clear hH
  intro w34 hH
  (try simp only [Exit.then, Exit.inBlock, ↓reduceIte, Nat.reduceEqDiff])
  refine ⟨8 - (i + 1), ?_, _, rfl, by kernel_rfl, ?_⟩
  · first | omega | (omega)
  simp only [ga]
  refine ⟨i + 1, cs31, rfl, ?_, rfl, ?_, ?_⟩
  ·
   exact hH
  · first | omega | (omega)
  · first | omega | (unfold nonL; exact hO32)
 ·
  (try simp only [cnd] at hc26)
  refine wp_exit ?_
  (try simp only [Exit.then, Exit.inBlock, ↓reduceIte, Nat.reduceEqDiff])
  refine hK12 _ _ ?_
  (try clear hK12 K12)
  refine wp_seq_k ?_
  intro K35 hK35
  refine wrt [.p 0, .p 1] ?_
  refine pm (pa ?_);simp only [nf]
  refine plan_nil hH ?_
  clear hH
  intro w36 hH
  refine hK35 _ _ ?_
  (try clear hK35 K35)
  refine wp_ret ?_
  (try simp only [Exit.then, Exit.inBlock, ↓reduceIte, Nat.reduceEqDiff])
  refine BP.ret1 rfl rfl ?_
  obtain rfl : i = 8 := by omega
  rw [hb] at hO ⊢
  exact ⟨_, _, _, rfl, hH.chg, hO, hH.owned 1 rfl⟩

theorem docnonce_calls (b : ByteArray) (n : Nat) (w : World) (hb : b.size = 12) (hn : n < 9223372036854775808) : Ret Tryd.prog 25 #[.string b, I64 n] w fun v w' => v = .string ⟨(nonL b.data.toList n 8).toArray⟩ ∧ Chg [] w w' := by
 have hsl : b.data.toList.length = b.size := by simp
 refine Ret.enter Tryd.func25 rfl ?_
 simp only [Tryd.ntmps25, fe, Nat.reduceAdd, Nat.reduceSub]
 have hH := Hp.start [] w
 refine wp_seq_k ?_
 intro K1 hK1
 refine wrt [.p 0] ?_
 refine pa ?_;simp only [nf]
 refine plan_nil hH ?_
 clear hH
 intro w2 hH
 refine hK1 _ _ ?_
 (try clear hK1 K1)
 refine wp_seq_k ?_
 intro K3 hK3
 refine wrt [.p 0, .x 1, .p 2] ?_
 refine pm ?_;simp only [nf]
 refine plan_s2b rfl rfl hH rfl Tryd.underlying9 Tryd.underlying22 Tryd.underlying5 ?_
 clear hH
 intro b4 cap5 cs6 w7 hO8 hH
 (try simp only [nf] at hH ⊢)
 (try simp only [nf, nh, Value.cells, arrB_set] at hH ⊢)
 refine pa ?_;simp only [nf]
 refine plan_nil hH ?_
 clear hH
 intro w9 hH
 refine hK3 _ _ ?_
 (try clear hK3 K3)
 refine wp_seq_k ?_
 intro K10 hK10
 refine wp_seq_k ?_
 intro K11 hK11
 refine wrt [.p 0] ?_
 refine pka 0 ?_;simp only [nf]
 refine plan_nil hH ?_
 clear hH
 intro w12 hH
 refine hK11 _ _ ?_
 (try clear hK11 K11)
 refine wp_block ?_
 refine wp_loopT [6] [9, 10, 11, 12, 13, 14, 15, 16, 17, 18, 19, 20, 21, 22, 23, 24, 25, 26, 27] (fun (n13 : Nat) (vs : List Value) (w' : World) => ∃ (i : Nat) (cs : Array Value), vs = [I64 (i : Nat)] ∧ Hp [] w w' [(some b4, 5, cs)] ∧ n13 = 8 - i ∧ i ≤ 8 ∧ OwnC (some b4) b.size cap5 1 cs ((nonL b.data.toList n i).map V8)) (8 - 0) (by kernel_rfl) ?_ ?_
 ·
  simp only [ga]
  refine ⟨0, cs6, rfl, ?_, rfl, ?_, ?_⟩
  ·
   exact hH
  · first | omega | (omega)
  · first | omega | (exact hO8)
 clear hH
 intro n13 vs14 w15 hR16 d0
 obtain ⟨i, cs, rfl, hH, hn17, hf18, hO⟩ := hR16
 simp only [putAll, putD, List.set_cons_zero, List.set_cons_succ, Nat.zero_add, Nat.reduceAdd]
 refine wp_seq_k ?_
 intro K19 hK19
 refine wp_seq_k ?_
 intro K20 hK20
 refine wrt [.p 0, .p 1] ?_
 refine pm ?_;simp only [nf]
 refine pp rfl rfl (pr_bin rfl rfl (by first | exact bin_lss_n (n := 8)  | exact bin_lss_i)) ?_;simp only [nf]
 refine plan_nil hH ?_
 clear hH
 intro w21 hH
 refine hK20 _ _ ?_
 (try clear hK20 K20)
 refine wp_cond_split rfl (fun hc22 => ?_) (fun hc22 => ?_)
 ·
  (try simp only [cnd] at hc22)
  refine wp_skip ?_
  refine hK19 _ _ ?_
  (try clear hK19 K19)
  refine wp_seq_k ?_
  intro K23 hK23
  refine wp_block ?_
  refine wrp [.p 0, .p 1, .p 2, .p 3, .p 4, .p 5, .p 6, .p 8, .p 9, .p 10, .p 11, .p 12, .q 7, .p 13, .p 14, .e 15] ?_
  refine pm (pm ?_);simp only [nf]
  refine pp rfl rfl (pr_bin rfl rfl (by first | exact bin_sub_n (m := 11) (by first | omega | (simp <;> omega)) (by first | omega | (simp <;> omega)) | exact bin_sub_i (by first | omega | (simp <;> omega)) (by first | omega | (simp <;> omega)))) ?_;simp only [nf]
  refine pm (pm ?_);simp only [nf]
  refine pp rfl rfl (pr_bin rfl rfl (by first | exact bin_sub_n (m := 11) (by first | omega | (simp <;> omega)) (by first | omega | (simp <;> omega)) | exact bin_sub_i (by first | omega | (simp <;> omega)) (by first | omega | (simp <;> omega)))) ?_;simp only [nf]
  refine pp rfl rfl (pr_idx_Sl (OwnC.sl hH 0 rfl hO) rfl rfl Tryd.underlying22 sz5 (by first | omega | (simp <;> omega))) ?_;simp only [nf]
  refine pm (pm ?_);simp only [nf]
  refine pp rfl rfl (pr_bin rfl rfl (by first | exact bin_mul_n (m := 8) (by first | omega | (simp <;> omega)) | exact bin_mul_i (by first | omega | (simp <;> omega)) (by first | omega | (simp <;> omega)))) ?_;simp only [nf]
  refine pp rfl rfl (pr_bin rfl rfl (by first | exact bin_shr_n (by first | omega | (simp <;> omega)) | exact bin_shr_i (by first | omega | (simp <;> omega)))) ?_;simp only [nf]
  refine pp rfl rfl (pr_conv rfl (by first | exact cnv_n_u8 Tryd.underlying3 Tryd.underlying5 | exact cnv_i_u8 Tryd.underlying3 Tryd.underlying5)) ?_;simp only [nf]
  refine pq rfl rfl (qr_load1 rfl Tryd.underlying5 rfl (Sl.cell (OwnC.sl hH 0 rfl hO) (by first | omega | (simp <;> omega)))) ?_;simp only [nf]
  refine pp rfl rfl (pr_bin rfl rfl (bin_xor_u8 _ _)) ?_;simp only [nf]
  refine pp rfl rfl (pr_idx_Sl (OwnC.sl hH 0 rfl hO) rfl rfl Tryd.underlying22 sz5 (by first | omega | (simp <;> omega))) ?_;simp only [nf]
  refine plan_storeO 0 rfl rfl hH rfl rfl hO rfl sz5 (by first | omega | (simp <;> omega)) ?_
  clear hH
  intro cs25 w24 hO26 hH
  (try simp only [nf, nh, Value.cells, arrB_set] at hH ⊢)
  refine plan_nil hH ?_
  clear hH
  intro w27 hH
  refine hK23 _ _ ?_
  (try clear hK23 K23)
  refine wrt [.p 0, .p 1, .p 2] ?_
  refine pm ?_;simp only [nf]
  refine pp rfl rfl (pr_bin rfl rfl (by first | exact bin_add_n (n := 1) (by first | omega | (simp <;> omega)) | exact bin_add_i (by first | omega | (simp <;> omega)) (by first | omega | (simp <;> omega)))) ?_;simp only [nf]
  refine pa ?_;simp only [nf]
  refine plan_nil hH ?_
  clear hH
  intro w28 hH
  (try simp only [Exit.then, Exit.inBlock, ↓reduceIte, Nat.reduceEqDiff])
  refine ⟨8 - (i + 1), ?_, _, rfl, by kernel_rfl, ?_⟩
  · first | omega | (omega)
  simp only [ga]
  refine ⟨i + 1, cs25, rfl, ?_, rfl, ?_, ?_⟩
  ·
   exact hH
  · first | omega | (omega)
  · first | omega | (unfold nonL; exact hO26)
 ·
  (try simp only [cnd] at hc22)
  refine wp_exit ?_
  (try simp only [Exit.then, Exit.inBlock, ↓reduceIte, Nat.reduceEqDiff])
  refine hK10 _ _ ?_
  (try clear hK10 K10)
  refine wp_seq_k ?_
  intro K29 hK29
  refine wrt [.p 0, .q 1, .p 2] ?_
  refine pm ?_;simp only [nf]
  refine pq rfl rfl (qr_b2s (OwnC.sl hH 0 rfl hO) rfl Tryd.underlying22 Tryd.underlying5 Tryd.underlying9) ?_;simp only [nf]
  refine pa ?_;simp only [nf]
  refine plan_nil hH ?_
  clear hH
  intro w30 hH
  refine hK29 _ _ ?_
  (try clear hK29 K29)
  refine wp_ret ?_
  (try simp only [Exit.then, Exit.inBlock, ↓reduceIte, Nat.reduceEqDiff])
  refine BP.ret1 rfl rfl ?_
  obtain rfl : i = 8 := by omega
  exact ⟨rfl, hH.chg⟩

end Go.Proofs.YtmoaddicejohgaaDoor
