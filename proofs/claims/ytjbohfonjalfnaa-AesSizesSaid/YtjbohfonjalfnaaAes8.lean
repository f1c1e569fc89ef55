/- Walks of the law AesSizes, case by case. No conditions but the cases. -/
import Derived.Test.YtjbohfonjalfnaaAes7
set_option linter.unusedSimpArgs false
set_option linter.unusedVariables false
set_option maxRecDepth 100000
set_option maxHeartbeats 4000000
namespace Go.Proofs.Ytjbohfonjalfnaa
open Go

theorem none_calls (w : World) : Ret Try.prog 20 #[] w fun v w' => v = .pointer none ∧ Chg [] w w' := by
  refine Ret.enter Try.func20 rfl ?_
  simp only [Try.ntmps20, List.size_toArray, List.length_cons, List.length_nil, Nat.reduceAdd, Nat.reduceSub, frame_enter, List.replicate_succ, List.replicate_zero, List.nil_append, List.cons_append]
  have hH := Hp.start [] w
  refine wp_seq_k ?_
  intro K1 hK1
  refine wp_region_text [.p 0] rfl ?_
  refine plan_p rfl rfl pr_assign ?_
  try simp only [eval_tmp, eval_const, put_some, put_none, List.getD_cons_zero, List.getD_cons_succ, List.set_cons_zero, List.set_cons_succ, Nat.zero_add, Nat.add_zero, Nat.mul_one, Nat.zero_mul, List.getElem_toArray, List.getElem_cons_zero, List.getElem_cons_succ]
  refine plan_nil hH ?_
  clear hH
  intro w2 hH
  refine hK1 _ _ ?_
  try clear hK1 K1
  refine wp_seq_k ?_
  intro K3 hK3
  refine wp_region_text [.p 0] rfl ?_
  refine plan_p rfl rfl pr_assign ?_
  try simp only [eval_tmp, eval_const, put_some, put_none, List.getD_cons_zero, List.getD_cons_succ, List.set_cons_zero, List.set_cons_succ, Nat.zero_add, Nat.add_zero, Nat.mul_one, Nat.zero_mul, List.getElem_toArray, List.getElem_cons_zero, List.getElem_cons_succ]
  refine plan_nil hH ?_
  clear hH
  intro w4 hH
  refine hK3 _ _ ?_
  try clear hK3 K3
  refine wp_ret ?_
  try simp only [Exit.then, Exit.inBlock, ↓reduceIte, Nat.reduceEqDiff]
  refine BP.ret1 rfl rfl ?_
  exact ⟨rfl, hH.chg⟩

theorem sizes_key (kv bv : Value) (kl bl : List UInt8) (w : World) (hk : Sl w kv kl) (hb : Sl w bv bl) (h1 : kl.length ≠ 16) (h2 : True) : Ret Try.prog 5 #[kv, bv] w fun v w' => v = BV true ∧ Chg [] w w' := by
  refine Ret.enter Try.func5 rfl ?_
  simp only [Try.ntmps5, List.size_toArray, List.length_cons, List.length_nil, Nat.reduceAdd, Nat.reduceSub, frame_enter, List.replicate_succ, List.replicate_zero, List.nil_append, List.cons_append]
  have hH := Hp.start [] w
  refine wp_seq_k ?_
  intro K1 hK1
  refine wp_region_text [.p 0] rfl ?_
  refine plan_p rfl rfl pr_assign ?_
  try simp only [eval_tmp, eval_const, put_some, put_none, List.getD_cons_zero, List.getD_cons_succ, List.set_cons_zero, List.set_cons_succ, Nat.zero_add, Nat.add_zero, Nat.mul_one, Nat.zero_mul, List.getElem_toArray, List.getElem_cons_zero, List.getElem_cons_succ]
  refine plan_nil hH ?_
  clear hH
  intro w2 hH
  refine hK1 _ _ ?_
  try clear hK1 K1
  refine wp_seq_k ?_
  intro K3 hK3
  refine wp_region_text [.q 0, .p 1, .q 2, .p 3, .p 4, .p 5, .p 6, .p 7] rfl ?_
  refine plan_q rfl rfl (qr_call cf20 (fun w' hw => none_calls w') rfl) ?_
  try simp only [eval_tmp, eval_const, put_some, put_none, List.getD_cons_zero, List.getD_cons_succ, List.set_cons_zero, List.set_cons_succ, Nat.zero_add, Nat.add_zero, Nat.mul_one, Nat.zero_mul, List.getElem_toArray, List.getElem_cons_zero, List.getElem_cons_succ]
  refine plan_p rfl rfl pr_move ?_
  try simp only [eval_tmp, eval_const, put_some, put_none, List.getD_cons_zero, List.getD_cons_succ, List.set_cons_zero, List.set_cons_succ, Nat.zero_add, Nat.add_zero, Nat.mul_one, Nat.zero_mul, List.getElem_toArray, List.getElem_cons_zero, List.getElem_cons_succ]
  refine plan_q rfl rfl (qr_call cf17 (fun w' hw => block_nil _ w') rfl) ?_
  try simp only [eval_tmp, eval_const, put_some, put_none, List.getD_cons_zero, List.getD_cons_succ, List.set_cons_zero, List.set_cons_succ, Nat.zero_add, Nat.add_zero, Nat.mul_one, Nat.zero_mul, List.getElem_toArray, List.getElem_cons_zero, List.getElem_cons_succ]
  refine plan_p rfl rfl pr_move ?_
  try simp only [eval_tmp, eval_const, put_some, put_none, List.getD_cons_zero, List.getD_cons_succ, List.set_cons_zero, List.set_cons_succ, Nat.zero_add, Nat.add_zero, Nat.mul_one, Nat.zero_mul, List.getElem_toArray, List.getElem_cons_zero, List.getElem_cons_succ]
  refine plan_p rfl rfl (pr_extract rfl rfl) ?_
  try simp only [eval_tmp, eval_const, put_some, put_none, List.getD_cons_zero, List.getD_cons_succ, List.set_cons_zero, List.set_cons_succ, Nat.zero_add, Nat.add_zero, Nat.mul_one, Nat.zero_mul, List.getElem_toArray, List.getElem_cons_zero, List.getElem_cons_succ]
  refine plan_p rfl rfl (pr_extract rfl rfl) ?_
  try simp only [eval_tmp, eval_const, put_some, put_none, List.getD_cons_zero, List.getD_cons_succ, List.set_cons_zero, List.set_cons_succ, Nat.zero_add, Nat.add_zero, Nat.mul_one, Nat.zero_mul, List.getElem_toArray, List.getElem_cons_zero, List.getElem_cons_succ]
  refine plan_p rfl rfl pr_assign ?_
  try simp only [eval_tmp, eval_const, put_some, put_none, List.getD_cons_zero, List.getD_cons_succ, List.set_cons_zero, List.set_cons_succ, Nat.zero_add, Nat.add_zero, Nat.mul_one, Nat.zero_mul, List.getElem_toArray, List.getElem_cons_zero, List.getElem_cons_succ]
  refine plan_p rfl rfl pr_assign ?_
  try simp only [eval_tmp, eval_const, put_some, put_none, List.getD_cons_zero, List.getD_cons_succ, List.set_cons_zero, List.set_cons_succ, Nat.zero_add, Nat.add_zero, Nat.mul_one, Nat.zero_mul, List.getElem_toArray, List.getElem_cons_zero, List.getElem_cons_succ]
  refine plan_nil hH ?_
  clear hH
  intro w4 hH
  refine hK3 _ _ ?_
  try clear hK3 K3
  refine wp_seq_k ?_
  intro K5 hK5
  refine wp_region_text [.q 0, .p 1, .p 2, .q 3, .p 4, .p 5, .p 6, .p 7, .p 8] rfl ?_
  refine plan_q rfl rfl (qr_call cf20 (fun w' hw => none_calls w') rfl) ?_
  try simp only [eval_tmp, eval_const, put_some, put_none, List.getD_cons_zero, List.getD_cons_succ, List.set_cons_zero, List.set_cons_succ, Nat.zero_add, Nat.add_zero, Nat.mul_one, Nat.zero_mul, List.getElem_toArray, List.getElem_cons_zero, List.getElem_cons_succ]
  refine plan_p rfl rfl pr_move ?_
  try simp only [eval_tmp, eval_const, put_some, put_none, List.getD_cons_zero, List.getD_cons_succ, List.set_cons_zero, List.set_cons_succ, Nat.zero_add, Nat.add_zero, Nat.mul_one, Nat.zero_mul, List.getElem_toArray, List.getElem_cons_zero, List.getElem_cons_succ]
  refine plan_p rfl rfl pr_move ?_
  try simp only [eval_tmp, eval_const, put_some, put_none, List.getD_cons_zero, List.getD_cons_succ, List.set_cons_zero, List.set_cons_succ, Nat.zero_add, Nat.add_zero, Nat.mul_one, Nat.zero_mul, List.getElem_toArray, List.getElem_cons_zero, List.getElem_cons_succ]
  refine plan_q rfl rfl (qr_call cf21 (fun w' hw => stream_nil _ _ _ w') rfl) ?_
  try simp only [eval_tmp, eval_const, put_some, put_none, List.getD_cons_zero, List.getD_cons_succ, List.set_cons_zero, List.set_cons_succ, Nat.zero_add, Nat.add_zero, Nat.mul_one, Nat.zero_mul, List.getElem_toArray, List.getElem_cons_zero, List.getElem_cons_succ]
  refine plan_p rfl rfl pr_move ?_
  try simp only [eval_tmp, eval_const, put_some, put_none, List.getD_cons_zero, List.getD_cons_succ, List.set_cons_zero, List.set_cons_succ, Nat.zero_add, Nat.add_zero, Nat.mul_one, Nat.zero_mul, List.getElem_toArray, List.getElem_cons_zero, List.getElem_cons_succ]
  refine plan_p rfl rfl (pr_extract rfl rfl) ?_
  try simp only [eval_tmp, eval_const, put_some, put_none, List.getD_cons_zero, List.getD_cons_succ, List.set_cons_zero, List.set_cons_succ, Nat.zero_add, Nat.add_zero, Nat.mul_one, Nat.zero_mul, List.getElem_toArray, List.getElem_cons_zero, List.getElem_cons_succ]
  refine plan_p rfl rfl (pr_extract rfl rfl) ?_
  try simp only [eval_tmp, eval_const, put_some, put_none, List.getD_cons_zero, List.getD_cons_succ, List.set_cons_zero, List.set_cons_succ, Nat.zero_add, Nat.add_zero, Nat.mul_one, Nat.zero_mul, List.getElem_toArray, List.getElem_cons_zero, List.getElem_cons_succ]
  refine plan_p rfl rfl pr_assign ?_
  try simp only [eval_tmp, eval_const, put_some, put_none, List.getD_cons_zero, List.getD_cons_succ, List.set_cons_zero, List.set_cons_succ, Nat.zero_add, Nat.add_zero, Nat.mul_one, Nat.zero_mul, List.getElem_toArray, List.getElem_cons_zero, List.getElem_cons_succ]
  refine plan_p rfl rfl pr_assign ?_
  try simp only [eval_tmp, eval_const, put_some, put_none, List.getD_cons_zero, List.getD_cons_succ, List.set_cons_zero, List.set_cons_succ, Nat.zero_add, Nat.add_zero, Nat.mul_one, Nat.zero_mul, List.getElem_toArray, List.getElem_cons_zero, List.getElem_cons_succ]
  refine plan_nil hH ?_
  clear hH
  intro w6 hH
  refine hK5 _ _ ?_
  try clear hK5 K5
  refine wp_seq_k ?_
  intro K7 hK7
  refine wp_region_text [.p 0, .q 1, .p 2, .p 3, .p 4, .p 5, .p 6] rfl ?_
  refine plan_p rfl rfl pr_move ?_
  try simp only [eval_tmp, eval_const, put_some, put_none, List.getD_cons_zero, List.getD_cons_succ, List.set_cons_zero, List.set_cons_succ, Nat.zero_add, Nat.add_zero, Nat.mul_one, Nat.zero_mul, List.getElem_toArray, List.getElem_cons_zero, List.getElem_cons_succ]
  refine plan_q rfl rfl (qr_call cf15 (fun w' hw => new_fails _ _ w' (hk.chg (hH.chg.trans hw)) h1) rfl) ?_
  try simp only [eval_tmp, eval_const, put_some, put_none, List.getD_cons_zero, List.getD_cons_succ, List.set_cons_zero, List.set_cons_succ, Nat.zero_add, Nat.add_zero, Nat.mul_one, Nat.zero_mul, List.getElem_toArray, List.getElem_cons_zero, List.getElem_cons_succ]
  refine plan_p rfl rfl pr_move ?_
  try simp only [eval_tmp, eval_const, put_some, put_none, List.getD_cons_zero, List.getD_cons_succ, List.set_cons_zero, List.set_cons_succ, Nat.zero_add, Nat.add_zero, Nat.mul_one, Nat.zero_mul, List.getElem_toArray, List.getElem_cons_zero, List.getElem_cons_succ]
  refine plan_p rfl rfl (pr_extract rfl rfl) ?_
  try simp only [eval_tmp, eval_const, put_some, put_none, List.getD_cons_zero, List.getD_cons_succ, List.set_cons_zero, List.set_cons_succ, Nat.zero_add, Nat.add_zero, Nat.mul_one, Nat.zero_mul, List.getElem_toArray, List.getElem_cons_zero, List.getElem_cons_succ]
  refine plan_p rfl rfl (pr_extract rfl rfl) ?_
  try simp only [eval_tmp, eval_const, put_some, put_none, List.getD_cons_zero, List.getD_cons_succ, List.set_cons_zero, List.set_cons_succ, Nat.zero_add, Nat.add_zero, Nat.mul_one, Nat.zero_mul, List.getElem_toArray, List.getElem_cons_zero, List.getElem_cons_succ]
  refine plan_p rfl rfl pr_assign ?_
  try simp only [eval_tmp, eval_const, put_some, put_none, List.getD_cons_zero, List.getD_cons_succ, List.set_cons_zero, List.set_cons_succ, Nat.zero_add, Nat.add_zero, Nat.mul_one, Nat.zero_mul, List.getElem_toArray, List.getElem_cons_zero, List.getElem_cons_succ]
  refine plan_p rfl rfl pr_assign ?_
  try simp only [eval_tmp, eval_const, put_some, put_none, List.getD_cons_zero, List.getD_cons_succ, List.set_cons_zero, List.set_cons_succ, Nat.zero_add, Nat.add_zero, Nat.mul_one, Nat.zero_mul, List.getElem_toArray, List.getElem_cons_zero, List.getElem_cons_succ]
  refine plan_nil hH ?_
  clear hH
  intro w8 hH
  refine hK7 _ _ ?_
  try clear hK7 K7
  refine wp_seq_k ?_
  intro K9 hK9
  refine wp_seq_k ?_
  intro K10 hK10
  refine wp_region_text [.q 0, .p 1, .p 2, .p 3, .p 4, .p 5, .p 6, .p 7, .p 8, .p 9, .p 10, .p 11, .p 12, .p 13, .p 14, .p 15, .p 16, .p 17, .p 18, .p 19, .p 20, .p 21, .p 22, .p 23, .p 24, .p 25, .p 26, .p 27, .p 28, .p 29, .p 30, .p 31, .p 32] rfl ?_
  refine plan_q rfl rfl (qr_call cf16 (fun w' hw => turns_calls w') rfl) ?_
  try simp only [eval_tmp, eval_const, put_some, put_none, List.getD_cons_zero, List.getD_cons_succ, List.set_cons_zero, List.set_cons_succ, Nat.zero_add, Nat.add_zero, Nat.mul_one, Nat.zero_mul, List.getElem_toArray, List.getElem_cons_zero, List.getElem_cons_succ]
  refine plan_p rfl rfl (pr_not rfl) ?_
  try simp only [eval_tmp, eval_const, put_some, put_none, List.getD_cons_zero, List.getD_cons_succ, List.set_cons_zero, List.set_cons_succ, Nat.zero_add, Nat.add_zero, Nat.mul_one, Nat.zero_mul, List.getElem_toArray, List.getElem_cons_zero, List.getElem_cons_succ]
  refine plan_p (v := BV false) rfl rfl (pr_move_v rfl) ?_
  try simp only [eval_tmp, eval_const, put_some, put_none, List.getD_cons_zero, List.getD_cons_succ, List.set_cons_zero, List.set_cons_succ, Nat.zero_add, Nat.add_zero, Nat.mul_one, Nat.zero_mul, List.getElem_toArray, List.getElem_cons_zero, List.getElem_cons_succ]
  refine plan_p rfl rfl pr_move ?_
  try simp only [eval_tmp, eval_const, put_some, put_none, List.getD_cons_zero, List.getD_cons_succ, List.set_cons_zero, List.set_cons_succ, Nat.zero_add, Nat.add_zero, Nat.mul_one, Nat.zero_mul, List.getElem_toArray, List.getElem_cons_zero, List.getElem_cons_succ]
  refine plan_p rfl rfl (pr_bin rfl rfl (by first | exact bin_neq_n (n := 1)  | exact bin_neq_i)) ?_
  try simp only [eval_tmp, eval_const, put_some, put_none, List.getD_cons_zero, List.getD_cons_succ, List.set_cons_zero, List.set_cons_succ, Nat.zero_add, Nat.add_zero, Nat.mul_one, Nat.zero_mul, List.getElem_toArray, List.getElem_cons_zero, List.getElem_cons_succ]
  refine plan_p rfl rfl (pr_pick_f rfl) ?_
  try simp only [eval_tmp, eval_const, put_some, put_none, List.getD_cons_zero, List.getD_cons_succ, List.set_cons_zero, List.set_cons_succ, Nat.zero_add, Nat.add_zero, Nat.mul_one, Nat.zero_mul, List.getElem_toArray, List.getElem_cons_zero, List.getElem_cons_succ]
  refine plan_p (v := BV false) rfl rfl (pr_move_v rfl) ?_
  try simp only [eval_tmp, eval_const, put_some, put_none, List.getD_cons_zero, List.getD_cons_succ, List.set_cons_zero, List.set_cons_succ, Nat.zero_add, Nat.add_zero, Nat.mul_one, Nat.zero_mul, List.getElem_toArray, List.getElem_cons_zero, List.getElem_cons_succ]
  refine plan_p rfl rfl pr_move ?_
  try simp only [eval_tmp, eval_const, put_some, put_none, List.getD_cons_zero, List.getD_cons_succ, List.set_cons_zero, List.set_cons_succ, Nat.zero_add, Nat.add_zero, Nat.mul_one, Nat.zero_mul, List.getElem_toArray, List.getElem_cons_zero, List.getElem_cons_succ]
  refine plan_p rfl rfl (pr_bin rfl rfl (by first | exact bin_neq_n (n := 1)  | exact bin_neq_i)) ?_
  try simp only [eval_tmp, eval_const, put_some, put_none, List.getD_cons_zero, List.getD_cons_succ, List.set_cons_zero, List.set_cons_succ, Nat.zero_add, Nat.add_zero, Nat.mul_one, Nat.zero_mul, List.getElem_toArray, List.getElem_cons_zero, List.getElem_cons_succ]
  refine plan_p rfl rfl (pr_pick_f rfl) ?_
  try simp only [eval_tmp, eval_const, put_some, put_none, List.getD_cons_zero, List.getD_cons_succ, List.set_cons_zero, List.set_cons_succ, Nat.zero_add, Nat.add_zero, Nat.mul_one, Nat.zero_mul, List.getElem_toArray, List.getElem_cons_zero, List.getElem_cons_succ]
  refine plan_p (v := BV false) rfl rfl (pr_move_v rfl) ?_
  try simp only [eval_tmp, eval_const, put_some, put_none, List.getD_cons_zero, List.getD_cons_succ, List.set_cons_zero, List.set_cons_succ, Nat.zero_add, Nat.add_zero, Nat.mul_one, Nat.zero_mul, List.getElem_toArray, List.getElem_cons_zero, List.getElem_cons_succ]
  refine plan_p rfl rfl pr_move ?_
  try simp only [eval_tmp, eval_const, put_some, put_none, List.getD_cons_zero, List.getD_cons_succ, List.set_cons_zero, List.set_cons_succ, Nat.zero_add, Nat.add_zero, Nat.mul_one, Nat.zero_mul, List.getElem_toArray, List.getElem_cons_zero, List.getElem_cons_succ]
  refine plan_p rfl rfl (pr_bin rfl rfl (by first | exact bin_eql_n (n := 0)  | exact bin_eql_i)) ?_
  try simp only [eval_tmp, eval_const, put_some, put_none, List.getD_cons_zero, List.getD_cons_succ, List.set_cons_zero, List.set_cons_succ, Nat.zero_add, Nat.add_zero, Nat.mul_one, Nat.zero_mul, List.getElem_toArray, List.getElem_cons_zero, List.getElem_cons_succ]
  refine plan_p rfl rfl pr_move ?_
  try simp only [eval_tmp, eval_const, put_some, put_none, List.getD_cons_zero, List.getD_cons_succ, List.set_cons_zero, List.set_cons_succ, Nat.zero_add, Nat.add_zero, Nat.mul_one, Nat.zero_mul, List.getElem_toArray, List.getElem_cons_zero, List.getElem_cons_succ]
  refine plan_p rfl rfl (pr_len_Sl (hk.chg hH.chg) rfl Try.underlying27) ?_
  try simp only [eval_tmp, eval_const, put_some, put_none, List.getD_cons_zero, List.getD_cons_succ, List.set_cons_zero, List.set_cons_succ, Nat.zero_add, Nat.add_zero, Nat.mul_one, Nat.zero_mul, List.getElem_toArray, List.getElem_cons_zero, List.getElem_cons_succ]
  refine plan_p rfl rfl (pr_bin rfl rfl (by first | exact bin_eql_n (n := 16)  | exact bin_eql_i)) ?_
  try simp only [eval_tmp, eval_const, put_some, put_none, List.getD_cons_zero, List.getD_cons_succ, List.set_cons_zero, List.set_cons_succ, Nat.zero_add, Nat.add_zero, Nat.mul_one, Nat.zero_mul, List.getElem_toArray, List.getElem_cons_zero, List.getElem_cons_succ]
  refine plan_p rfl rfl (pr_bin rfl rfl (bin_neq_b Try.underlying4)) ?_
  try simp only [eval_tmp, eval_const, put_some, put_none, List.getD_cons_zero, List.getD_cons_succ, List.set_cons_zero, List.set_cons_succ, Nat.zero_add, Nat.add_zero, Nat.mul_one, Nat.zero_mul, List.getElem_toArray, List.getElem_cons_zero, List.getElem_cons_succ]
  refine plan_p rfl rfl (pr_pick_f rfl) ?_
  try simp only [eval_tmp, eval_const, put_some, put_none, List.getD_cons_zero, List.getD_cons_succ, List.set_cons_zero, List.set_cons_succ, Nat.zero_add, Nat.add_zero, Nat.mul_one, Nat.zero_mul, List.getElem_toArray, List.getElem_cons_zero, List.getElem_cons_succ]
  refine plan_p (v := BV false) rfl rfl (pr_move_v (by show BV _ = _; rw [beq_eq_false_iff_ne.mpr h1]; rfl)) ?_
  try simp only [eval_tmp, eval_const, put_some, put_none, List.getD_cons_zero, List.getD_cons_succ, List.set_cons_zero, List.set_cons_succ, Nat.zero_add, Nat.add_zero, Nat.mul_one, Nat.zero_mul, List.getElem_toArray, List.getElem_cons_zero, List.getElem_cons_succ]
  refine plan_p rfl rfl pr_move ?_
  try simp only [eval_tmp, eval_const, put_some, put_none, List.getD_cons_zero, List.getD_cons_succ, List.set_cons_zero, List.set_cons_succ, Nat.zero_add, Nat.add_zero, Nat.mul_one, Nat.zero_mul, List.getElem_toArray, List.getElem_cons_zero, List.getElem_cons_succ]
  refine plan_p rfl rfl (pr_bin rfl rfl (bin_neq_pn Try.underlying23)) ?_
  try simp only [eval_tmp, eval_const, put_some, put_none, List.getD_cons_zero, List.getD_cons_succ, List.set_cons_zero, List.set_cons_succ, Nat.zero_add, Nat.add_zero, Nat.mul_one, Nat.zero_mul, List.getElem_toArray, List.getElem_cons_zero, List.getElem_cons_succ]
  refine plan_p rfl rfl pr_move ?_
  try simp only [eval_tmp, eval_const, put_some, put_none, List.getD_cons_zero, List.getD_cons_succ, List.set_cons_zero, List.set_cons_succ, Nat.zero_add, Nat.add_zero, Nat.mul_one, Nat.zero_mul, List.getElem_toArray, List.getElem_cons_zero, List.getElem_cons_succ]
  refine plan_p rfl rfl (pr_bin rfl rfl (by first | exact bin_eql_n (n := 0)  | exact bin_eql_i)) ?_
  try simp only [eval_tmp, eval_const, put_some, put_none, List.getD_cons_zero, List.getD_cons_succ, List.set_cons_zero, List.set_cons_succ, Nat.zero_add, Nat.add_zero, Nat.mul_one, Nat.zero_mul, List.getElem_toArray, List.getElem_cons_zero, List.getElem_cons_succ]
  refine plan_p rfl rfl (pr_bin rfl rfl (bin_neq_b Try.underlying4)) ?_
  try simp only [eval_tmp, eval_const, put_some, put_none, List.getD_cons_zero, List.getD_cons_succ, List.set_cons_zero, List.set_cons_succ, Nat.zero_add, Nat.add_zero, Nat.mul_one, Nat.zero_mul, List.getElem_toArray, List.getElem_cons_zero, List.getElem_cons_succ]
  refine plan_p rfl rfl (pr_pick_f rfl) ?_
  try simp only [eval_tmp, eval_const, put_some, put_none, List.getD_cons_zero, List.getD_cons_succ, List.set_cons_zero, List.set_cons_succ, Nat.zero_add, Nat.add_zero, Nat.mul_one, Nat.zero_mul, List.getElem_toArray, List.getElem_cons_zero, List.getElem_cons_succ]
  refine plan_p (v := BV false) rfl rfl (pr_move_v rfl) ?_
  try simp only [eval_tmp, eval_const, put_some, put_none, List.getD_cons_zero, List.getD_cons_succ, List.set_cons_zero, List.set_cons_succ, Nat.zero_add, Nat.add_zero, Nat.mul_one, Nat.zero_mul, List.getElem_toArray, List.getElem_cons_zero, List.getElem_cons_succ]
  refine plan_p rfl rfl pr_move ?_
  try simp only [eval_tmp, eval_const, put_some, put_none, List.getD_cons_zero, List.getD_cons_succ, List.set_cons_zero, List.set_cons_succ, Nat.zero_add, Nat.add_zero, Nat.mul_one, Nat.zero_mul, List.getElem_toArray, List.getElem_cons_zero, List.getElem_cons_succ]
  refine plan_p rfl rfl (pr_bin rfl rfl (by first | exact bin_neq_n (n := 0)  | exact bin_neq_i)) ?_
  try simp only [eval_tmp, eval_const, put_some, put_none, List.getD_cons_zero, List.getD_cons_succ, List.set_cons_zero, List.set_cons_succ, Nat.zero_add, Nat.add_zero, Nat.mul_one, Nat.zero_mul, List.getElem_toArray, List.getElem_cons_zero, List.getElem_cons_succ]
  refine plan_p (v := BV true) rfl rfl (pr_move_v rfl) ?_
  try simp only [eval_tmp, eval_const, put_some, put_none, List.getD_cons_zero, List.getD_cons_succ, List.set_cons_zero, List.set_cons_succ, Nat.zero_add, Nat.add_zero, Nat.mul_one, Nat.zero_mul, List.getElem_toArray, List.getElem_cons_zero, List.getElem_cons_succ]
  refine plan_p rfl rfl pr_move ?_
  try simp only [eval_tmp, eval_const, put_some, put_none, List.getD_cons_zero, List.getD_cons_succ, List.set_cons_zero, List.set_cons_succ, Nat.zero_add, Nat.add_zero, Nat.mul_one, Nat.zero_mul, List.getElem_toArray, List.getElem_cons_zero, List.getElem_cons_succ]
  refine plan_p rfl rfl (pr_bin rfl rfl (by first | exact bin_neq_n (n := 1)  | exact bin_neq_i)) ?_
  try simp only [eval_tmp, eval_const, put_some, put_none, List.getD_cons_zero, List.getD_cons_succ, List.set_cons_zero, List.set_cons_succ, Nat.zero_add, Nat.add_zero, Nat.mul_one, Nat.zero_mul, List.getElem_toArray, List.getElem_cons_zero, List.getElem_cons_succ]
  refine plan_p rfl rfl (pr_pick_t rfl) ?_
  try simp only [eval_tmp, eval_const, put_some, put_none, List.getD_cons_zero, List.getD_cons_succ, List.set_cons_zero, List.set_cons_succ, Nat.zero_add, Nat.add_zero, Nat.mul_one, Nat.zero_mul, List.getElem_toArray, List.getElem_cons_zero, List.getElem_cons_succ]
  refine plan_p rfl rfl (pr_pick_f rfl) ?_
  try simp only [eval_tmp, eval_const, put_some, put_none, List.getD_cons_zero, List.getD_cons_succ, List.set_cons_zero, List.set_cons_succ, Nat.zero_add, Nat.add_zero, Nat.mul_one, Nat.zero_mul, List.getElem_toArray, List.getElem_cons_zero, List.getElem_cons_succ]
  refine plan_nil hH ?_
  clear hH
  intro w11 hH
  refine hK10 _ _ ?_
  try clear hK10 K10
  refine wp_cond_false rfl ?_
  refine wp_skip ?_
  refine hK9 _ _ ?_
  try clear hK9 K9
  refine wp_seq_k ?_
  intro K12 hK12
  refine wp_seq_k ?_
  intro K13 hK13
  refine wp_region_text [.p 0, .p 1] rfl ?_
  refine plan_p rfl rfl pr_move ?_
  try simp only [eval_tmp, eval_const, put_some, put_none, List.getD_cons_zero, List.getD_cons_succ, List.set_cons_zero, List.set_cons_succ, Nat.zero_add, Nat.add_zero, Nat.mul_one, Nat.zero_mul, List.getElem_toArray, List.getElem_cons_zero, List.getElem_cons_succ]
  refine plan_p rfl rfl (pr_bin rfl rfl (by first | exact bin_neq_n (n := 0)  | exact bin_neq_i)) ?_
  try simp only [eval_tmp, eval_const, put_some, put_none, List.getD_cons_zero, List.getD_cons_succ, List.set_cons_zero, List.set_cons_succ, Nat.zero_add, Nat.add_zero, Nat.mul_one, Nat.zero_mul, List.getElem_toArray, List.getElem_cons_zero, List.getElem_cons_succ]
  refine plan_nil hH ?_
  clear hH
  intro w14 hH
  refine hK13 _ _ ?_
  try clear hK13 K13
  refine wp_cond_true rfl ?_
  refine wp_seq_k ?_
  intro K15 hK15
  refine wp_region_text [.p 0] rfl ?_
  refine plan_p rfl rfl pr_assign ?_
  try simp only [eval_tmp, eval_const, put_some, put_none, List.getD_cons_zero, List.getD_cons_succ, List.set_cons_zero, List.set_cons_succ, Nat.zero_add, Nat.add_zero, Nat.mul_one, Nat.zero_mul, List.getElem_toArray, List.getElem_cons_zero, List.getElem_cons_succ]
  refine plan_nil hH ?_
  clear hH
  intro w16 hH
  refine hK15 _ _ ?_
  try clear hK15 K15
  refine wp_ret ?_
  try simp only [Exit.then, Exit.inBlock, ↓reduceIte, Nat.reduceEqDiff]
  refine BP.ret1 rfl rfl ?_
  exact ⟨rfl, hH.chg⟩

theorem sizes_block (kv bv : Value) (kl bl : List UInt8) (w : World) (hk : Sl w kv kl) (hb : Sl w bv bl) (h1 : kl.length = 16) (h2 : bl.length ≠ 16) : Ret Try.prog 5 #[kv, bv] w fun v w' => v = BV true ∧ Chg [] w w' := by
  refine Ret.enter Try.func5 rfl ?_
  simp only [Try.ntmps5, List.size_toArray, List.length_cons, List.length_nil, Nat.reduceAdd, Nat.reduceSub, frame_enter, List.replicate_succ, List.replicate_zero, List.nil_append, List.cons_append]
  have hH := Hp.start [] w
  refine wp_seq_k ?_
  intro K1 hK1
  refine wp_region_text [.p 0] rfl ?_
  refine plan_p rfl rfl pr_assign ?_
  try simp only [eval_tmp, eval_const, put_some, put_none, List.getD_cons_zero, List.getD_cons_succ, List.set_cons_zero, List.set_cons_succ, Nat.zero_add, Nat.add_zero, Nat.mul_one, Nat.zero_mul, List.getElem_toArray, List.getElem_cons_zero, List.getElem_cons_succ]
  refine plan_nil hH ?_
  clear hH
  intro w2 hH
  refine hK1 _ _ ?_
  try clear hK1 K1
  refine wp_seq_k ?_
  intro K3 hK3
  refine wp_region_text [.q 0, .p 1, .q 2, .p 3, .p 4, .p 5, .p 6, .p 7] rfl ?_
  refine plan_q rfl rfl (qr_call cf20 (fun w' hw => none_calls w') rfl) ?_
  try simp only [eval_tmp, eval_const, put_some, put_none, List.getD_cons_zero, List.getD_cons_succ, List.set_cons_zero, List.set_cons_succ, Nat.zero_add, Nat.add_zero, Nat.mul_one, Nat.zero_mul, List.getElem_toArray, List.getElem_cons_zero, List.getElem_cons_succ]
  refine plan_p rfl rfl pr_move ?_
  try simp only [eval_tmp, eval_const, put_some, put_none, List.getD_cons_zero, List.getD_cons_succ, List.set_cons_zero, List.set_cons_succ, Nat.zero_add, Nat.add_zero, Nat.mul_one, Nat.zero_mul, List.getElem_toArray, List.getElem_cons_zero, List.getElem_cons_succ]
  refine plan_q rfl rfl (qr_call cf17 (fun w' hw => block_nil _ w') rfl) ?_
  try simp only [eval_tmp, eval_const, put_some, put_none, List.getD_cons_zero, List.getD_cons_succ, List.set_cons_zero, List.set_cons_succ, Nat.zero_add, Nat.add_zero, Nat.mul_one, Nat.zero_mul, List.getElem_toArray, List.getElem_cons_zero, List.getElem_cons_succ]
  refine plan_p rfl rfl pr_move ?_
  try simp only [eval_tmp, eval_const, put_some, put_none, List.getD_cons_zero, List.getD_cons_succ, List.set_cons_zero, List.set_cons_succ, Nat.zero_add, Nat.add_zero, Nat.mul_one, Nat.zero_mul, List.getElem_toArray, List.getElem_cons_zero, List.getElem_cons_succ]
  refine plan_p rfl rfl (pr_extract rfl rfl) ?_
  try simp only [eval_tmp, eval_const, put_some, put_none, List.getD_cons_zero, List.getD_cons_succ, List.set_cons_zero, List.set_cons_succ, Nat.zero_add, Nat.add_zero, Nat.mul_one, Nat.zero_mul, List.getElem_toArray, List.getElem_cons_zero, List.getElem_cons_succ]
  refine plan_p rfl rfl (pr_extract rfl rfl) ?_
  try simp only [eval_tmp, eval_const, put_some, put_none, List.getD_cons_zero, List.getD_cons_succ, List.set_cons_zero, List.set_cons_succ, Nat.zero_add, Nat.add_zero, Nat.mul_one, Nat.zero_mul, List.getElem_toArray, List.getElem_cons_zero, List.getElem_cons_succ]
  refine plan_p rfl rfl pr_assign ?_
  try simp only [eval_tmp, eval_const, put_some, put_none, List.getD_cons_zero, List.getD_cons_succ, List.set_cons_zero, List.set_cons_succ, Nat.zero_add, Nat.add_zero, Nat.mul_one, Nat.zero_mul, List.getElem_toArray, List.getElem_cons_zero, List.getElem_cons_succ]
  refine plan_p rfl rfl pr_assign ?_
  try simp only [eval_tmp, eval_const, put_some, put_none, List.getD_cons_zero, List.getD_cons_succ, List.set_cons_zero, List.set_cons_succ, Nat.zero_add, Nat.add_zero, Nat.mul_one, Nat.zero_mul, List.getElem_toArray, List.getElem_cons_zero, List.getElem_cons_succ]
  refine plan_nil hH ?_
  clear hH
  intro w4 hH
  refine hK3 _ _ ?_
  try clear hK3 K3
  refine wp_seq_k ?_
  intro K5 hK5
  refine wp_region_text [.q 0, .p 1, .p 2, .q 3, .p 4, .p 5, .p 6, .p 7, .p 8] rfl ?_
  refine plan_q rfl rfl (qr_call cf20 (fun w' hw => none_calls w') rfl) ?_
  try simp only [eval_tmp, eval_const, put_some, put_none, List.getD_cons_zero, List.getD_cons_succ, List.set_cons_zero, List.set_cons_succ, Nat.zero_add, Nat.add_zero, Nat.mul_one, Nat.zero_mul, List.getElem_toArray, List.getElem_cons_zero, List.getElem_cons_succ]
  refine plan_p rfl rfl pr_move ?_
  try simp only [eval_tmp, eval_const, put_some, put_none, List.getD_cons_zero, List.getD_cons_succ, List.set_cons_zero, List.set_cons_succ, Nat.zero_add, Nat.add_zero, Nat.mul_one, Nat.zero_mul, List.getElem_toArray, List.getElem_cons_zero, List.getElem_cons_succ]
  refine plan_p rfl rfl pr_move ?_
  try simp only [eval_tmp, eval_const, put_some, put_none, List.getD_cons_zero, List.getD_cons_succ, List.set_cons_zero, List.set_cons_succ, Nat.zero_add, Nat.add_zero, Nat.mul_one, Nat.zero_mul, List.getElem_toArray, List.getElem_cons_zero, List.getElem_cons_succ]
  refine plan_q rfl rfl (qr_call cf21 (fun w' hw => stream_nil _ _ _ w') rfl) ?_
  try simp only [eval_tmp, eval_const, put_some, put_none, List.getD_cons_zero, List.getD_cons_succ, List.set_cons_zero, List.set_cons_succ, Nat.zero_add, Nat.add_zero, Nat.mul_one, Nat.zero_mul, List.getElem_toArray, List.getElem_cons_zero, List.getElem_cons_succ]
  refine plan_p rfl rfl pr_move ?_
  try simp only [eval_tmp, eval_const, put_some, put_none, List.getD_cons_zero, List.getD_cons_succ, List.set_cons_zero, List.set_cons_succ, Nat.zero_add, Nat.add_zero, Nat.mul_one, Nat.zero_mul, List.getElem_toArray, List.getElem_cons_zero, List.getElem_cons_succ]
  refine plan_p rfl rfl (pr_extract rfl rfl) ?_
  try simp only [eval_tmp, eval_const, put_some, put_none, List.getD_cons_zero, List.getD_cons_succ, List.set_cons_zero, List.set_cons_succ, Nat.zero_add, Nat.add_zero, Nat.mul_one, Nat.zero_mul, List.getElem_toArray, List.getElem_cons_zero, List.getElem_cons_succ]
  refine plan_p rfl rfl (pr_extract rfl rfl) ?_
  try simp only [eval_tmp, eval_const, put_some, put_none, List.getD_cons_zero, List.getD_cons_succ, List.set_cons_zero, List.set_cons_succ, Nat.zero_add, Nat.add_zero, Nat.mul_one, Nat.zero_mul, List.getElem_toArray, List.getElem_cons_zero, List.getElem_cons_succ]
  refine plan_p rfl rfl pr_assign ?_
  try simp only [eval_tmp, eval_const, put_some, put_none, List.getD_cons_zero, List.getD_cons_succ, List.set_cons_zero, List.set_cons_succ, Nat.zero_add, Nat.add_zero, Nat.mul_one, Nat.zero_mul, List.getElem_toArray, List.getElem_cons_zero, List.getElem_cons_succ]
  refine plan_p rfl rfl pr_assign ?_
  try simp only [eval_tmp, eval_const, put_some, put_none, List.getD_cons_zero, List.getD_cons_succ, List.set_cons_zero, List.set_cons_succ, Nat.zero_add, Nat.add_zero, Nat.mul_one, Nat.zero_mul, List.getElem_toArray, List.getElem_cons_zero, List.getElem_cons_succ]
  refine plan_nil hH ?_
  clear hH
  intro w6 hH
  refine hK5 _ _ ?_
  try clear hK5 K5
  refine wp_seq_k ?_
  intro K7 hK7
  refine wp_region_text [.p 0, .x 1, .p 2, .p 3, .p 4, .p 5, .p 6] rfl ?_
  refine plan_p rfl rfl pr_move ?_
  try simp only [eval_tmp, eval_const, put_some, put_none, List.getD_cons_zero, List.getD_cons_succ, List.set_cons_zero, List.set_cons_succ, Nat.zero_add, Nat.add_zero, Nat.mul_one, Nat.zero_mul, List.getElem_toArray, List.getElem_cons_zero, List.getElem_cons_succ]
  refine plan_callx rfl rfl hH cf15 (fun w' hH => new_calls _ _ w' (hk.chg hH.chg) h1) rfl (fun _ _ _ h => h.choose_spec.2.1) ?_
  clear hH
  intro w8 v9 w10 hH hp11
  obtain ⟨b12, rfl, hg, hfr, hbk⟩ := hp11
  replace hH := hH.callnew hg hbk hfr
  clear hg hfr hbk
  try simp only [eval_tmp, eval_const, put_some, put_none, List.getD_cons_zero, List.getD_cons_succ, List.set_cons_zero, List.set_cons_succ, Nat.zero_add, Nat.add_zero, Nat.mul_one, Nat.zero_mul, List.getElem_toArray, List.getElem_cons_zero, List.getElem_cons_succ, List.cons_append, List.nil_append, Value.cells, arr8_set, arr32_set, arr64_set, List.setIfInBounds_toArray] at hH ⊢
  try simp only [eval_tmp, eval_const, put_some, put_none, List.getD_cons_zero, List.getD_cons_succ, List.set_cons_zero, List.set_cons_succ, Nat.zero_add, Nat.add_zero, Nat.mul_one, Nat.zero_mul, List.getElem_toArray, List.getElem_cons_zero, List.getElem_cons_succ]
  refine plan_p rfl rfl pr_move ?_
  try simp only [eval_tmp, eval_const, put_some, put_none, List.getD_cons_zero, List.getD_cons_succ, List.set_cons_zero, List.set_cons_succ, Nat.zero_add, Nat.add_zero, Nat.mul_one, Nat.zero_mul, List.getElem_toArray, List.getElem_cons_zero, List.getElem_cons_succ]
  refine plan_p rfl rfl (pr_extract rfl rfl) ?_
  try simp only [eval_tmp, eval_const, put_some, put_none, List.getD_cons_zero, List.getD_cons_succ, List.set_cons_zero, List.set_cons_succ, Nat.zero_add, Nat.add_zero, Nat.mul_one, Nat.zero_mul, List.getElem_toArray, List.getElem_cons_zero, List.getElem_cons_succ]
  refine plan_p rfl rfl (pr_extract rfl rfl) ?_
  try simp only [eval_tmp, eval_const, put_some, put_none, List.getD_cons_zero, List.getD_cons_succ, List.set_cons_zero, List.set_cons_succ, Nat.zero_add, Nat.add_zero, Nat.mul_one, Nat.zero_mul, List.getElem_toArray, List.getElem_cons_zero, List.getElem_cons_succ]
  refine plan_p rfl rfl pr_assign ?_
  try simp only [eval_tmp, eval_const, put_some, put_none, List.getD_cons_zero, List.getD_cons_succ, List.set_cons_zero, List.set_cons_succ, Nat.zero_add, Nat.add_zero, Nat.mul_one, Nat.zero_mul, List.getElem_toArray, List.getElem_cons_zero, List.getElem_cons_succ]
  refine plan_p rfl rfl pr_assign ?_
  try simp only [eval_tmp, eval_const, put_some, put_none, List.getD_cons_zero, List.getD_cons_succ, List.set_cons_zero, List.set_cons_succ, Nat.zero_add, Nat.add_zero, Nat.mul_one, Nat.zero_mul, List.getElem_toArray, List.getElem_cons_zero, List.getElem_cons_succ]
  refine plan_nil hH ?_
  clear hH
  intro w13 hH
  refine hK7 _ _ ?_
  try clear hK7 K7
  refine wp_seq_k ?_
  intro K14 hK14
  refine wp_seq_k ?_
  intro K15 hK15
  refine wp_region_text [.q 0, .p 1, .p 2, .p 3, .p 4, .p 5, .p 6, .p 7, .p 8, .p 9, .p 10, .p 11, .p 12, .p 13, .p 14, .p 15, .p 16, .p 17, .p 18, .p 19, .p 20, .p 21, .p 22, .p 23, .p 24, .p 25, .p 26, .p 27, .p 28, .p 29, .p 30, .p 31, .p 32] rfl ?_
  refine plan_q rfl rfl (qr_call cf16 (fun w' hw => turns_calls w') rfl) ?_
  try simp only [eval_tmp, eval_const, put_some, put_none, List.getD_cons_zero, List.getD_cons_succ, List.set_cons_zero, List.set_cons_succ, Nat.zero_add, Nat.add_zero, Nat.mul_one, Nat.zero_mul, List.getElem_toArray, List.getElem_cons_zero, List.getElem_cons_succ]
  refine plan_p rfl rfl (pr_not rfl) ?_
  try simp only [eval_tmp, eval_const, put_some, put_none, List.getD_cons_zero, List.getD_cons_succ, List.set_cons_zero, List.set_cons_succ, Nat.zero_add, Nat.add_zero, Nat.mul_one, Nat.zero_mul, List.getElem_toArray, List.getElem_cons_zero, List.getElem_cons_succ]
  refine plan_p (v := BV false) rfl rfl (pr_move_v rfl) ?_
  try simp only [eval_tmp, eval_const, put_some, put_none, List.getD_cons_zero, List.getD_cons_succ, List.set_cons_zero, List.set_cons_succ, Nat.zero_add, Nat.add_zero, Nat.mul_one, Nat.zero_mul, List.getElem_toArray, List.getElem_cons_zero, List.getElem_cons_succ]
  refine plan_p rfl rfl pr_move ?_
  try simp only [eval_tmp, eval_const, put_some, put_none, List.getD_cons_zero, List.getD_cons_succ, List.set_cons_zero, List.set_cons_succ, Nat.zero_add, Nat.add_zero, Nat.mul_one, Nat.zero_mul, List.getElem_toArray, List.getElem_cons_zero, List.getElem_cons_succ]
  refine plan_p rfl rfl (pr_bin rfl rfl (by first | exact bin_neq_n (n := 1)  | exact bin_neq_i)) ?_
  try simp only [eval_tmp, eval_const, put_some, put_none, List.getD_cons_zero, List.getD_cons_succ, List.set_cons_zero, List.set_cons_succ, Nat.zero_add, Nat.add_zero, Nat.mul_one, Nat.zero_mul, List.getElem_toArray, List.getElem_cons_zero, List.getElem_cons_succ]
  refine plan_p rfl rfl (pr_pick_f rfl) ?_
  try simp only [eval_tmp, eval_const, put_some, put_none, List.getD_cons_zero, List.getD_cons_succ, List.set_cons_zero, List.set_cons_succ, Nat.zero_add, Nat.add_zero, Nat.mul_one, Nat.zero_mul, List.getElem_toArray, List.getElem_cons_zero, List.getElem_cons_succ]
  refine plan_p (v := BV false) rfl rfl (pr_move_v rfl) ?_
  try simp only [eval_tmp, eval_const, put_some, put_none, List.getD_cons_zero, List.getD_cons_succ, List.set_cons_zero, List.set_cons_succ, Nat.zero_add, Nat.add_zero, Nat.mul_one, Nat.zero_mul, List.getElem_toArray, List.getElem_cons_zero, List.getElem_cons_succ]
  refine plan_p rfl rfl pr_move ?_
  try simp only [eval_tmp, eval_const, put_some, put_none, List.getD_cons_zero, List.getD_cons_succ, List.set_cons_zero, List.set_cons_succ, Nat.zero_add, Nat.add_zero, Nat.mul_one, Nat.zero_mul, List.getElem_toArray, List.getElem_cons_zero, List.getElem_cons_succ]
  refine plan_p rfl rfl (pr_bin rfl rfl (by first | exact bin_neq_n (n := 1)  | exact bin_neq_i)) ?_
  try simp only [eval_tmp, eval_const, put_some, put_none, List.getD_cons_zero, List.getD_cons_succ, List.set_cons_zero, List.set_cons_succ, Nat.zero_add, Nat.add_zero, Nat.mul_one, Nat.zero_mul, List.getElem_toArray, List.getElem_cons_zero, List.getElem_cons_succ]
  refine plan_p rfl rfl (pr_pick_f rfl) ?_
  try simp only [eval_tmp, eval_const, put_some, put_none, List.getD_cons_zero, List.getD_cons_succ, List.set_cons_zero, List.set_cons_succ, Nat.zero_add, Nat.add_zero, Nat.mul_one, Nat.zero_mul, List.getElem_toArray, List.getElem_cons_zero, List.getElem_cons_succ]
  refine plan_p (v := BV false) rfl rfl (pr_move_v rfl) ?_
  try simp only [eval_tmp, eval_const, put_some, put_none, List.getD_cons_zero, List.getD_cons_succ, List.set_cons_zero, List.set_cons_succ, Nat.zero_add, Nat.add_zero, Nat.mul_one, Nat.zero_mul, List.getElem_toArray, List.getElem_cons_zero, List.getElem_cons_succ]
  refine plan_p rfl rfl pr_move ?_
  try simp only [eval_tmp, eval_const, put_some, put_none, List.getD_cons_zero, List.getD_cons_succ, List.set_cons_zero, List.set_cons_succ, Nat.zero_add, Nat.add_zero, Nat.mul_one, Nat.zero_mul, List.getElem_toArray, List.getElem_cons_zero, List.getElem_cons_succ]
  refine plan_p rfl rfl (pr_bin rfl rfl (by first | exact bin_eql_n (n := 0)  | exact bin_eql_i)) ?_
  try simp only [eval_tmp, eval_const, put_some, put_none, List.getD_cons_zero, List.getD_cons_succ, List.set_cons_zero, List.set_cons_succ, Nat.zero_add, Nat.add_zero, Nat.mul_one, Nat.zero_mul, List.getElem_toArray, List.getElem_cons_zero, List.getElem_cons_succ]
  refine plan_p rfl rfl pr_move ?_
  try simp only [eval_tmp, eval_const, put_some, put_none, List.getD_cons_zero, List.getD_cons_succ, List.set_cons_zero, List.set_cons_succ, Nat.zero_add, Nat.add_zero, Nat.mul_one, Nat.zero_mul, List.getElem_toArray, List.getElem_cons_zero, List.getElem_cons_succ]
  refine plan_p rfl rfl (pr_len_Sl (hk.chg hH.chg) rfl Try.underlying27) ?_
  try simp only [eval_tmp, eval_const, put_some, put_none, List.getD_cons_zero, List.getD_cons_succ, List.set_cons_zero, List.set_cons_succ, Nat.zero_add, Nat.add_zero, Nat.mul_one, Nat.zero_mul, List.getElem_toArray, List.getElem_cons_zero, List.getElem_cons_succ]
  refine plan_p rfl rfl (pr_bin rfl rfl (by first | exact bin_eql_n (n := 16)  | exact bin_eql_i)) ?_
  try simp only [eval_tmp, eval_const, put_some, put_none, List.getD_cons_zero, List.getD_cons_succ, List.set_cons_zero, List.set_cons_succ, Nat.zero_add, Nat.add_zero, Nat.mul_one, Nat.zero_mul, List.getElem_toArray, List.getElem_cons_zero, List.getElem_cons_succ]
  refine plan_p rfl rfl (pr_bin rfl rfl (bin_neq_b Try.underlying4)) ?_
  try simp only [eval_tmp, eval_const, put_some, put_none, List.getD_cons_zero, List.getD_cons_succ, List.set_cons_zero, List.set_cons_succ, Nat.zero_add, Nat.add_zero, Nat.mul_one, Nat.zero_mul, List.getElem_toArray, List.getElem_cons_zero, List.getElem_cons_succ]
  refine plan_p rfl rfl (pr_pick_f rfl) ?_
  try simp only [eval_tmp, eval_const, put_some, put_none, List.getD_cons_zero, List.getD_cons_succ, List.set_cons_zero, List.set_cons_succ, Nat.zero_add, Nat.add_zero, Nat.mul_one, Nat.zero_mul, List.getElem_toArray, List.getElem_cons_zero, List.getElem_cons_succ]
  refine plan_p (v := BV false) rfl rfl (pr_move_v (by show BV _ = _; rw [h1]; rfl)) ?_
  try simp only [eval_tmp, eval_const, put_some, put_none, List.getD_cons_zero, List.getD_cons_succ, List.set_cons_zero, List.set_cons_succ, Nat.zero_add, Nat.add_zero, Nat.mul_one, Nat.zero_mul, List.getElem_toArray, List.getElem_cons_zero, List.getElem_cons_succ]
  refine plan_p rfl rfl pr_move ?_
  try simp only [eval_tmp, eval_const, put_some, put_none, List.getD_cons_zero, List.getD_cons_succ, List.set_cons_zero, List.set_cons_succ, Nat.zero_add, Nat.add_zero, Nat.mul_one, Nat.zero_mul, List.getElem_toArray, List.getElem_cons_zero, List.getElem_cons_succ]
  refine plan_p rfl rfl (pr_bin rfl rfl (bin_neq_pn Try.underlying23)) ?_
  try simp only [eval_tmp, eval_const, put_some, put_none, List.getD_cons_zero, List.getD_cons_succ, List.set_cons_zero, List.set_cons_succ, Nat.zero_add, Nat.add_zero, Nat.mul_one, Nat.zero_mul, List.getElem_toArray, List.getElem_cons_zero, List.getElem_cons_succ]
  refine plan_p rfl rfl pr_move ?_
  try simp only [eval_tmp, eval_const, put_some, put_none, List.getD_cons_zero, List.getD_cons_succ, List.set_cons_zero, List.set_cons_succ, Nat.zero_add, Nat.add_zero, Nat.mul_one, Nat.zero_mul, List.getElem_toArray, List.getElem_cons_zero, List.getElem_cons_succ]
  refine plan_p rfl rfl (pr_bin rfl rfl (by first | exact bin_eql_n (n := 0)  | exact bin_eql_i)) ?_
  try simp only [eval_tmp, eval_const, put_some, put_none, List.getD_cons_zero, List.getD_cons_succ, List.set_cons_zero, List.set_cons_succ, Nat.zero_add, Nat.add_zero, Nat.mul_one, Nat.zero_mul, List.getElem_toArray, List.getElem_cons_zero, List.getElem_cons_succ]
  refine plan_p rfl rfl (pr_bin rfl rfl (bin_neq_b Try.underlying4)) ?_
  try simp only [eval_tmp, eval_const, put_some, put_none, List.getD_cons_zero, List.getD_cons_succ, List.set_cons_zero, List.set_cons_succ, Nat.zero_add, Nat.add_zero, Nat.mul_one, Nat.zero_mul, List.getElem_toArray, List.getElem_cons_zero, List.getElem_cons_succ]
  refine plan_p rfl rfl (pr_pick_f rfl) ?_
  try simp only [eval_tmp, eval_const, put_some, put_none, List.getD_cons_zero, List.getD_cons_succ, List.set_cons_zero, List.set_cons_succ, Nat.zero_add, Nat.add_zero, Nat.mul_one, Nat.zero_mul, List.getElem_toArray, List.getElem_cons_zero, List.getElem_cons_succ]
  refine plan_p (v := BV false) rfl rfl (pr_move_v rfl) ?_
  try simp only [eval_tmp, eval_const, put_some, put_none, List.getD_cons_zero, List.getD_cons_succ, List.set_cons_zero, List.set_cons_succ, Nat.zero_add, Nat.add_zero, Nat.mul_one, Nat.zero_mul, List.getElem_toArray, List.getElem_cons_zero, List.getElem_cons_succ]
  refine plan_p rfl rfl pr_move ?_
  try simp only [eval_tmp, eval_const, put_some, put_none, List.getD_cons_zero, List.getD_cons_succ, List.set_cons_zero, List.set_cons_succ, Nat.zero_add, Nat.add_zero, Nat.mul_one, Nat.zero_mul, List.getElem_toArray, List.getElem_cons_zero, List.getElem_cons_succ]
  refine plan_p rfl rfl (pr_bin rfl rfl (by first | exact bin_neq_n (n := 0)  | exact bin_neq_i)) ?_
  try simp only [eval_tmp, eval_const, put_some, put_none, List.getD_cons_zero, List.getD_cons_succ, List.set_cons_zero, List.set_cons_succ, Nat.zero_add, Nat.add_zero, Nat.mul_one, Nat.zero_mul, List.getElem_toArray, List.getElem_cons_zero, List.getElem_cons_succ]
  refine plan_p (v := BV false) rfl rfl (pr_move_v rfl) ?_
  try simp only [eval_tmp, eval_const, put_some, put_none, List.getD_cons_zero, List.getD_cons_succ, List.set_cons_zero, List.set_cons_succ, Nat.zero_add, Nat.add_zero, Nat.mul_one, Nat.zero_mul, List.getElem_toArray, List.getElem_cons_zero, List.getElem_cons_succ]
  refine plan_ps rfl rfl ?_
  try simp only [eval_tmp, eval_const, put_some, put_none, List.getD_cons_zero, List.getD_cons_succ, List.set_cons_zero, List.set_cons_succ, Nat.zero_add, Nat.add_zero, Nat.mul_one, Nat.zero_mul, List.getElem_toArray, List.getElem_cons_zero, List.getElem_cons_succ]
  refine plan_ps rfl rfl ?_
  try simp only [eval_tmp, eval_const, put_some, put_none, List.getD_cons_zero, List.getD_cons_succ, List.set_cons_zero, List.set_cons_succ, Nat.zero_add, Nat.add_zero, Nat.mul_one, Nat.zero_mul, List.getElem_toArray, List.getElem_cons_zero, List.getElem_cons_succ]
  refine plan_p rfl rfl (pr_pick_f rfl) ?_
  try simp only [eval_tmp, eval_const, put_some, put_none, List.getD_cons_zero, List.getD_cons_succ, List.set_cons_zero, List.set_cons_succ, Nat.zero_add, Nat.add_zero, Nat.mul_one, Nat.zero_mul, List.getElem_toArray, List.getElem_cons_zero, List.getElem_cons_succ]
  refine plan_p rfl rfl (pr_pick_f rfl) ?_
  try simp only [eval_tmp, eval_const, put_some, put_none, List.getD_cons_zero, List.getD_cons_succ, List.set_cons_zero, List.set_cons_succ, Nat.zero_add, Nat.add_zero, Nat.mul_one, Nat.zero_mul, List.getElem_toArray, List.getElem_cons_zero, List.getElem_cons_succ]
  refine plan_nil hH ?_
  clear hH
  intro w16 hH
  refine hK15 _ _ ?_
  try clear hK15 K15
  refine wp_cond_false rfl ?_
  refine wp_skip ?_
  refine hK14 _ _ ?_
  try clear hK14 K14
  refine wp_seq_k ?_
  intro K17 hK17
  refine wp_seq_k ?_
  intro K18 hK18
  refine wp_region_text [.p 0, .p 1] rfl ?_
  refine plan_p rfl rfl pr_move ?_
  try simp only [eval_tmp, eval_const, put_some, put_none, List.getD_cons_zero, List.getD_cons_succ, List.set_cons_zero, List.set_cons_succ, Nat.zero_add, Nat.add_zero, Nat.mul_one, Nat.zero_mul, List.getElem_toArray, List.getElem_cons_zero, List.getElem_cons_succ]
  refine plan_p rfl rfl (pr_bin rfl rfl (by first | exact bin_neq_n (n := 0)  | exact bin_neq_i)) ?_
  try simp only [eval_tmp, eval_const, put_some, put_none, List.getD_cons_zero, List.getD_cons_succ, List.set_cons_zero, List.set_cons_succ, Nat.zero_add, Nat.add_zero, Nat.mul_one, Nat.zero_mul, List.getElem_toArray, List.getElem_cons_zero, List.getElem_cons_succ]
  refine plan_nil hH ?_
  clear hH
  intro w19 hH
  refine hK18 _ _ ?_
  try clear hK18 K18
  refine wp_cond_false rfl ?_
  refine wp_skip ?_
  refine hK17 _ _ ?_
  try clear hK17 K17
  refine wp_seq_k ?_
  intro K20 hK20
  refine wp_region_text [.p 0, .p 1, .q 2, .p 3, .p 4, .p 5, .p 6, .p 7] rfl ?_
  refine plan_p rfl rfl pr_move ?_
  try simp only [eval_tmp, eval_const, put_some, put_none, List.getD_cons_zero, List.getD_cons_succ, List.set_cons_zero, List.set_cons_succ, Nat.zero_add, Nat.add_zero, Nat.mul_one, Nat.zero_mul, List.getElem_toArray, List.getElem_cons_zero, List.getElem_cons_succ]
  refine plan_p rfl rfl pr_move ?_
  try simp only [eval_tmp, eval_const, put_some, put_none, List.getD_cons_zero, List.getD_cons_succ, List.set_cons_zero, List.set_cons_succ, Nat.zero_add, Nat.add_zero, Nat.mul_one, Nat.zero_mul, List.getElem_toArray, List.getElem_cons_zero, List.getElem_cons_succ]
  refine plan_q rfl rfl (qr_call cf17 (fun w' hw => block_fails _ _ _ w' (hb.chg (hH.chg.trans hw)) h2) rfl) ?_
  try simp only [eval_tmp, eval_const, put_some, put_none, List.getD_cons_zero, List.getD_cons_succ, List.set_cons_zero, List.set_cons_succ, Nat.zero_add, Nat.add_zero, Nat.mul_one, Nat.zero_mul, List.getElem_toArray, List.getElem_cons_zero, List.getElem_cons_succ]
  refine plan_p rfl rfl pr_move ?_
  try simp only [eval_tmp, eval_const, put_some, put_none, List.getD_cons_zero, List.getD_cons_succ, List.set_cons_zero, List.set_cons_succ, Nat.zero_add, Nat.add_zero, Nat.mul_one, Nat.zero_mul, List.getElem_toArray, List.getElem_cons_zero, List.getElem_cons_succ]
  refine plan_p rfl rfl (pr_extract rfl rfl) ?_
  try simp only [eval_tmp, eval_const, put_some, put_none, List.getD_cons_zero, List.getD_cons_succ, List.set_cons_zero, List.set_cons_succ, Nat.zero_add, Nat.add_zero, Nat.mul_one, Nat.zero_mul, List.getElem_toArray, List.getElem_cons_zero, List.getElem_cons_succ]
  refine plan_p rfl rfl (pr_extract rfl rfl) ?_
  try simp only [eval_tmp, eval_const, put_some, put_none, List.getD_cons_zero, List.getD_cons_succ, List.set_cons_zero, List.set_cons_succ, Nat.zero_add, Nat.add_zero, Nat.mul_one, Nat.zero_mul, List.getElem_toArray, List.getElem_cons_zero, List.getElem_cons_succ]
  refine plan_p rfl rfl pr_assign ?_
  try simp only [eval_tmp, eval_const, put_some, put_none, List.getD_cons_zero, List.getD_cons_succ, List.set_cons_zero, List.set_cons_succ, Nat.zero_add, Nat.add_zero, Nat.mul_one, Nat.zero_mul, List.getElem_toArray, List.getElem_cons_zero, List.getElem_cons_succ]
  refine plan_p rfl rfl pr_assign ?_
  try simp only [eval_tmp, eval_const, put_some, put_none, List.getD_cons_zero, List.getD_cons_succ, List.set_cons_zero, List.set_cons_succ, Nat.zero_add, Nat.add_zero, Nat.mul_one, Nat.zero_mul, List.getElem_toArray, List.getElem_cons_zero, List.getElem_cons_succ]
  refine plan_nil hH ?_
  clear hH
  intro w21 hH
  refine hK20 _ _ ?_
  try clear hK20 K20
  refine wp_seq_k ?_
  intro K22 hK22
  refine wp_region_text [.p 0, .p 1, .x 2, .e 3, .q 4, .p 5, .p 6, .p 7, .p 8, .p 9] rfl ?_
  refine plan_p rfl rfl pr_move ?_
  try simp only [eval_tmp, eval_const, put_some, put_none, List.getD_cons_zero, List.getD_cons_succ, List.set_cons_zero, List.set_cons_succ, Nat.zero_add, Nat.add_zero, Nat.mul_one, Nat.zero_mul, List.getElem_toArray, List.getElem_cons_zero, List.getElem_cons_succ]
  refine plan_p rfl rfl pr_move ?_
  try simp only [eval_tmp, eval_const, put_some, put_none, List.getD_cons_zero, List.getD_cons_succ, List.set_cons_zero, List.set_cons_succ, Nat.zero_add, Nat.add_zero, Nat.mul_one, Nat.zero_mul, List.getElem_toArray, List.getElem_cons_zero, List.getElem_cons_succ]
  refine plan_buildSlice rfl rfl hH Try.underlying27 (by rfl) (bs3 97 98 99) ?_
  clear hH
  intro b23 w24 hH
  try simp only [eval_tmp, eval_const, put_some, put_none, List.getD_cons_zero, List.getD_cons_succ, List.set_cons_zero, List.set_cons_succ, Nat.zero_add, Nat.add_zero, Nat.mul_one, Nat.zero_mul, List.getElem_toArray, List.getElem_cons_zero, List.getElem_cons_succ, List.cons_append, List.nil_append, Value.cells, arr8_set, arr32_set, arr64_set, List.setIfInBounds_toArray] at hH ⊢
  refine plan_mark 1 rfl rfl hH rfl rfl Try.underlying27 Try.underlying5 ?_
  clear hH
  intro w25 hH
  try simp only [eval_tmp, eval_const, put_some, put_none, List.getD_cons_zero, List.getD_cons_succ, List.set_cons_zero, List.set_cons_succ, Nat.zero_add, Nat.add_zero, Nat.mul_one, Nat.zero_mul, List.getElem_toArray, List.getElem_cons_zero, List.getElem_cons_succ] at hH ⊢
  try simp only [eval_tmp, eval_const, put_some, put_none, List.getD_cons_zero, List.getD_cons_succ, List.set_cons_zero, List.set_cons_succ, Nat.zero_add, Nat.add_zero, Nat.mul_one, Nat.zero_mul, List.getElem_toArray, List.getElem_cons_zero, List.getElem_cons_succ, List.cons_append, List.nil_append, Value.cells, arr8_set, arr32_set, arr64_set, List.setIfInBounds_toArray] at hH ⊢
  refine plan_q rfl rfl (qr_call cf21 (fun w' hw => stream_len _ _ _ _ _ w' (hb.chg (hH.chg.trans hw)) h2) rfl) ?_
  try simp only [eval_tmp, eval_const, put_some, put_none, List.getD_cons_zero, List.getD_cons_succ, List.set_cons_zero, List.set_cons_succ, Nat.zero_add, Nat.add_zero, Nat.mul_one, Nat.zero_mul, List.getElem_toArray, List.getElem_cons_zero, List.getElem_cons_succ]
  refine plan_p rfl rfl pr_move ?_
  try simp only [eval_tmp, eval_const, put_some, put_none, List.getD_cons_zero, List.getD_cons_succ, List.set_cons_zero, List.set_cons_succ, Nat.zero_add, Nat.add_zero, Nat.mul_one, Nat.zero_mul, List.getElem_toArray, List.getElem_cons_zero, List.getElem_cons_succ]
  refine plan_p rfl rfl (pr_extract rfl rfl) ?_
  try simp only [eval_tmp, eval_const, put_some, put_none, List.getD_cons_zero, List.getD_cons_succ, List.set_cons_zero, List.set_cons_succ, Nat.zero_add, Nat.add_zero, Nat.mul_one, Nat.zero_mul, List.getElem_toArray, List.getElem_cons_zero, List.getElem_cons_succ]
  refine plan_p rfl rfl (pr_extract rfl rfl) ?_
  try simp only [eval_tmp, eval_const, put_some, put_none, List.getD_cons_zero, List.getD_cons_succ, List.set_cons_zero, List.set_cons_succ, Nat.zero_add, Nat.add_zero, Nat.mul_one, Nat.zero_mul, List.getElem_toArray, List.getElem_cons_zero, List.getElem_cons_succ]
  refine plan_p rfl rfl pr_assign ?_
  try simp only [eval_tmp, eval_const, put_some, put_none, List.getD_cons_zero, List.getD_cons_succ, List.set_cons_zero, List.set_cons_succ, Nat.zero_add, Nat.add_zero, Nat.mul_one, Nat.zero_mul, List.getElem_toArray, List.getElem_cons_zero, List.getElem_cons_succ]
  refine plan_p rfl rfl pr_assign ?_
  try simp only [eval_tmp, eval_const, put_some, put_none, List.getD_cons_zero, List.getD_cons_succ, List.set_cons_zero, List.set_cons_succ, Nat.zero_add, Nat.add_zero, Nat.mul_one, Nat.zero_mul, List.getElem_toArray, List.getElem_cons_zero, List.getElem_cons_succ]
  refine plan_nil hH ?_
  clear hH
  intro w26 hH
  refine hK22 _ _ ?_
  try clear hK22 K22
  refine wp_seq_k ?_
  intro K27 hK27
  refine wp_seq_k ?_
  intro K28 hK28
  refine wp_region_text [.p 0, .p 1, .p 2] rfl ?_
  refine plan_p rfl rfl pr_move ?_
  try simp only [eval_tmp, eval_const, put_some, put_none, List.getD_cons_zero, List.getD_cons_succ, List.set_cons_zero, List.set_cons_succ, Nat.zero_add, Nat.add_zero, Nat.mul_one, Nat.zero_mul, List.getElem_toArray, List.getElem_cons_zero, List.getElem_cons_succ]
  refine plan_p rfl rfl (pr_len_Sl (hb.chg hH.chg) rfl Try.underlying27) ?_
  try simp only [eval_tmp, eval_const, put_some, put_none, List.getD_cons_zero, List.getD_cons_succ, List.set_cons_zero, List.set_cons_succ, Nat.zero_add, Nat.add_zero, Nat.mul_one, Nat.zero_mul, List.getElem_toArray, List.getElem_cons_zero, List.getElem_cons_succ]
  refine plan_p rfl rfl (pr_bin rfl rfl (by first | exact bin_neq_n (n := 16)  | exact bin_neq_i)) ?_
  try simp only [eval_tmp, eval_const, put_some, put_none, List.getD_cons_zero, List.getD_cons_succ, List.set_cons_zero, List.set_cons_succ, Nat.zero_add, Nat.add_zero, Nat.mul_one, Nat.zero_mul, List.getElem_toArray, List.getElem_cons_zero, List.getElem_cons_succ]
  refine plan_nil hH ?_
  clear hH
  intro w29 hH
  refine hK28 _ _ ?_
  try clear hK28 K28
  refine wp_cond_true (by show BV _ = _; rw [bne_iff_ne.mpr h2]) ?_
  refine wp_seq_k ?_
  intro K30 hK30
  refine wp_region_text [.p 0, .p 1, .p 2, .p 3, .p 4, .p 5, .p 6, .p 7, .p 8, .p 9, .p 10, .p 11, .p 12, .p 13, .p 14, .p 15, .p 16] rfl ?_
  refine plan_p rfl rfl pr_move ?_
  try simp only [eval_tmp, eval_const, put_some, put_none, List.getD_cons_zero, List.getD_cons_succ, List.set_cons_zero, List.set_cons_succ, Nat.zero_add, Nat.add_zero, Nat.mul_one, Nat.zero_mul, List.getElem_toArray, List.getElem_cons_zero, List.getElem_cons_succ]
  refine plan_p rfl rfl (pr_bin rfl rfl (by first | exact bin_eql_n (n := 1)  | exact bin_eql_i)) ?_
  try simp only [eval_tmp, eval_const, put_some, put_none, List.getD_cons_zero, List.getD_cons_succ, List.set_cons_zero, List.set_cons_succ, Nat.zero_add, Nat.add_zero, Nat.mul_one, Nat.zero_mul, List.getElem_toArray, List.getElem_cons_zero, List.getElem_cons_succ]
  refine plan_p (v := BV true) rfl rfl (pr_move_v rfl) ?_
  try simp only [eval_tmp, eval_const, put_some, put_none, List.getD_cons_zero, List.getD_cons_succ, List.set_cons_zero, List.set_cons_succ, Nat.zero_add, Nat.add_zero, Nat.mul_one, Nat.zero_mul, List.getElem_toArray, List.getElem_cons_zero, List.getElem_cons_succ]
  refine plan_p rfl rfl pr_move ?_
  try simp only [eval_tmp, eval_const, put_some, put_none, List.getD_cons_zero, List.getD_cons_succ, List.set_cons_zero, List.set_cons_succ, Nat.zero_add, Nat.add_zero, Nat.mul_one, Nat.zero_mul, List.getElem_toArray, List.getElem_cons_zero, List.getElem_cons_succ]
  refine plan_p rfl rfl (pr_bin rfl rfl (by first | exact bin_eql_n (n := 1)  | exact bin_eql_i)) ?_
  try simp only [eval_tmp, eval_const, put_some, put_none, List.getD_cons_zero, List.getD_cons_succ, List.set_cons_zero, List.set_cons_succ, Nat.zero_add, Nat.add_zero, Nat.mul_one, Nat.zero_mul, List.getElem_toArray, List.getElem_cons_zero, List.getElem_cons_succ]
  refine plan_p rfl rfl (pr_pick_t rfl) ?_
  try simp only [eval_tmp, eval_const, put_some, put_none, List.getD_cons_zero, List.getD_cons_succ, List.set_cons_zero, List.set_cons_succ, Nat.zero_add, Nat.add_zero, Nat.mul_one, Nat.zero_mul, List.getElem_toArray, List.getElem_cons_zero, List.getElem_cons_succ]
  refine plan_p (v := BV true) rfl rfl (pr_move_v rfl) ?_
  try simp only [eval_tmp, eval_const, put_some, put_none, List.getD_cons_zero, List.getD_cons_succ, List.set_cons_zero, List.set_cons_succ, Nat.zero_add, Nat.add_zero, Nat.mul_one, Nat.zero_mul, List.getElem_toArray, List.getElem_cons_zero, List.getElem_cons_succ]
  refine plan_p rfl rfl pr_move ?_
  try simp only [eval_tmp, eval_const, put_some, put_none, List.getD_cons_zero, List.getD_cons_succ, List.set_cons_zero, List.set_cons_succ, Nat.zero_add, Nat.add_zero, Nat.mul_one, Nat.zero_mul, List.getElem_toArray, List.getElem_cons_zero, List.getElem_cons_succ]
  refine plan_p rfl rfl (pr_len_sl rfl Try.underlying27) ?_
  try simp only [eval_tmp, eval_const, put_some, put_none, List.getD_cons_zero, List.getD_cons_succ, List.set_cons_zero, List.set_cons_succ, Nat.zero_add, Nat.add_zero, Nat.mul_one, Nat.zero_mul, List.getElem_toArray, List.getElem_cons_zero, List.getElem_cons_succ]
  refine plan_p rfl rfl (pr_bin rfl rfl (by first | exact bin_eql_n (n := 0)  | exact bin_eql_i)) ?_
  try simp only [eval_tmp, eval_const, put_some, put_none, List.getD_cons_zero, List.getD_cons_succ, List.set_cons_zero, List.set_cons_succ, Nat.zero_add, Nat.add_zero, Nat.mul_one, Nat.zero_mul, List.getElem_toArray, List.getElem_cons_zero, List.getElem_cons_succ]
  refine plan_p rfl rfl (pr_pick_t rfl) ?_
  try simp only [eval_tmp, eval_const, put_some, put_none, List.getD_cons_zero, List.getD_cons_succ, List.set_cons_zero, List.set_cons_succ, Nat.zero_add, Nat.add_zero, Nat.mul_one, Nat.zero_mul, List.getElem_toArray, List.getElem_cons_zero, List.getElem_cons_succ]
  refine plan_p (v := BV true) rfl rfl (pr_move_v rfl) ?_
  try simp only [eval_tmp, eval_const, put_some, put_none, List.getD_cons_zero, List.getD_cons_succ, List.set_cons_zero, List.set_cons_succ, Nat.zero_add, Nat.add_zero, Nat.mul_one, Nat.zero_mul, List.getElem_toArray, List.getElem_cons_zero, List.getElem_cons_succ]
  refine plan_p rfl rfl pr_move ?_
  try simp only [eval_tmp, eval_const, put_some, put_none, List.getD_cons_zero, List.getD_cons_succ, List.set_cons_zero, List.set_cons_succ, Nat.zero_add, Nat.add_zero, Nat.mul_one, Nat.zero_mul, List.getElem_toArray, List.getElem_cons_zero, List.getElem_cons_succ]
  refine plan_p rfl rfl (pr_len_sl rfl Try.underlying27) ?_
  try simp only [eval_tmp, eval_const, put_some, put_none, List.getD_cons_zero, List.getD_cons_succ, List.set_cons_zero, List.set_cons_succ, Nat.zero_add, Nat.add_zero, Nat.mul_one, Nat.zero_mul, List.getElem_toArray, List.getElem_cons_zero, List.getElem_cons_succ]
  refine plan_p rfl rfl (pr_bin rfl rfl (by first | exact bin_eql_n (n := 0)  | exact bin_eql_i)) ?_
  try simp only [eval_tmp, eval_const, put_some, put_none, List.getD_cons_zero, List.getD_cons_succ, List.set_cons_zero, List.set_cons_succ, Nat.zero_add, Nat.add_zero, Nat.mul_one, Nat.zero_mul, List.getElem_toArray, List.getElem_cons_zero, List.getElem_cons_succ]
  refine plan_p rfl rfl (pr_pick_t rfl) ?_
  try simp only [eval_tmp, eval_const, put_some, put_none, List.getD_cons_zero, List.getD_cons_succ, List.set_cons_zero, List.set_cons_succ, Nat.zero_add, Nat.add_zero, Nat.mul_one, Nat.zero_mul, List.getElem_toArray, List.getElem_cons_zero, List.getElem_cons_succ]
  refine plan_p rfl rfl pr_assign ?_
  try simp only [eval_tmp, eval_const, put_some, put_none, List.getD_cons_zero, List.getD_cons_succ, List.set_cons_zero, List.set_cons_succ, Nat.zero_add, Nat.add_zero, Nat.mul_one, Nat.zero_mul, List.getElem_toArray, List.getElem_cons_zero, List.getElem_cons_succ]
  refine plan_nil hH ?_
  clear hH
  intro w31 hH
  refine hK30 _ _ ?_
  try clear hK30 K30
  refine wp_ret ?_
  try simp only [Exit.then, Exit.inBlock, ↓reduceIte, Nat.reduceEqDiff]
  refine BP.ret1 rfl rfl ?_
  exact ⟨rfl, hH.chg⟩

theorem sizes_both (kv bv : Value) (kl bl : List UInt8) (w : World) (hk : Sl w kv kl) (hb : Sl w bv bl) (h1 : kl.length = 16) (h2 : bl.length = 16) : Ret Try.prog 5 #[kv, bv] w fun v w' => v = BV true ∧ Chg [] w w' := by
  refine Ret.enter Try.func5 rfl ?_
  simp only [Try.ntmps5, List.size_toArray, List.length_cons, List.length_nil, Nat.reduceAdd, Nat.reduceSub, frame_enter, List.replicate_succ, List.replicate_zero, List.nil_append, List.cons_append]
  have hH := Hp.start [] w
  refine wp_seq_k ?_
  intro K1 hK1
  refine wp_region_text [.p 0] rfl ?_
  refine plan_p rfl rfl pr_assign ?_
  try simp only [eval_tmp, eval_const, put_some, put_none, List.getD_cons_zero, List.getD_cons_succ, List.set_cons_zero, List.set_cons_succ, Nat.zero_add, Nat.add_zero, Nat.mul_one, Nat.zero_mul, List.getElem_toArray, List.getElem_cons_zero, List.getElem_cons_succ]
  refine plan_nil hH ?_
  clear hH
  intro w2 hH
  refine hK1 _ _ ?_
  try clear hK1 K1
  refine wp_seq_k ?_
  intro K3 hK3
  refine wp_region_text [.q 0, .p 1, .q 2, .p 3, .p 4, .p 5, .p 6, .p 7] rfl ?_
  refine plan_q rfl rfl (qr_call cf20 (fun w' hw => none_calls w') rfl) ?_
  try simp only [eval_tmp, eval_const, put_some, put_none, List.getD_cons_zero, List.getD_cons_succ, List.set_cons_zero, List.set_cons_succ, Nat.zero_add, Nat.add_zero, Nat.mul_one, Nat.zero_mul, List.getElem_toArray, List.getElem_cons_zero, List.getElem_cons_succ]
  refine plan_p rfl rfl pr_move ?_
  try simp only [eval_tmp, eval_const, put_some, put_none, List.getD_cons_zero, List.getD_cons_succ, List.set_cons_zero, List.set_cons_succ, Nat.zero_add, Nat.add_zero, Nat.mul_one, Nat.zero_mul, List.getElem_toArray, List.getElem_cons_zero, List.getElem_cons_succ]
  refine plan_q rfl rfl (qr_call cf17 (fun w' hw => block_nil _ w') rfl) ?_
  try simp only [eval_tmp, eval_const, put_some, put_none, List.getD_cons_zero, List.getD_cons_succ, List.set_cons_zero, List.set_cons_succ, Nat.zero_add, Nat.add_zero, Nat.mul_one, Nat.zero_mul, List.getElem_toArray, List.getElem_cons_zero, List.getElem_cons_succ]
  refine plan_p rfl rfl pr_move ?_
  try simp only [eval_tmp, eval_const, put_some, put_none, List.getD_cons_zero, List.getD_cons_succ, List.set_cons_zero, List.set_cons_succ, Nat.zero_add, Nat.add_zero, Nat.mul_one, Nat.zero_mul, List.getElem_toArray, List.getElem_cons_zero, List.getElem_cons_succ]
  refine plan_p rfl rfl (pr_extract rfl rfl) ?_
  try simp only [eval_tmp, eval_const, put_some, put_none, List.getD_cons_zero, List.getD_cons_succ, List.set_cons_zero, List.set_cons_succ, Nat.zero_add, Nat.add_zero, Nat.mul_one, Nat.zero_mul, List.getElem_toArray, List.getElem_cons_zero, List.getElem_cons_succ]
  refine plan_p rfl rfl (pr_extract rfl rfl) ?_
  try simp only [eval_tmp, eval_const, put_some, put_none, List.getD_cons_zero, List.getD_cons_succ, List.set_cons_zero, List.set_cons_succ, Nat.zero_add, Nat.add_zero, Nat.mul_one, Nat.zero_mul, List.getElem_toArray, List.getElem_cons_zero, List.getElem_cons_succ]
  refine plan_p rfl rfl pr_assign ?_
  try simp only [eval_tmp, eval_const, put_some, put_none, List.getD_cons_zero, List.getD_cons_succ, List.set_cons_zero, List.set_cons_succ, Nat.zero_add, Nat.add_zero, Nat.mul_one, Nat.zero_mul, List.getElem_toArray, List.getElem_cons_zero, List.getElem_cons_succ]
  refine plan_p rfl rfl pr_assign ?_
  try simp only [eval_tmp, eval_const, put_some, put_none, List.getD_cons_zero, List.getD_cons_succ, List.set_cons_zero, List.set_cons_succ, Nat.zero_add, Nat.add_zero, Nat.mul_one, Nat.zero_mul, List.getElem_toArray, List.getElem_cons_zero, List.getElem_cons_succ]
  refine plan_nil hH ?_
  clear hH
  intro w4 hH
  refine hK3 _ _ ?_
  try clear hK3 K3
  refine wp_seq_k ?_
  intro K5 hK5
  refine wp_region_text [.q 0, .p 1, .p 2, .q 3, .p 4, .p 5, .p 6, .p 7, .p 8] rfl ?_
  refine plan_q rfl rfl (qr_call cf20 (fun w' hw => none_calls w') rfl) ?_
  try simp only [eval_tmp, eval_const, put_some, put_none, List.getD_cons_zero, List.getD_cons_succ, List.set_cons_zero, List.set_cons_succ, Nat.zero_add, Nat.add_zero, Nat.mul_one, Nat.zero_mul, List.getElem_toArray, List.getElem_cons_zero, List.getElem_cons_succ]
  refine plan_p rfl rfl pr_move ?_
  try simp only [eval_tmp, eval_const, put_some, put_none, List.getD_cons_zero, List.getD_cons_succ, List.set_cons_zero, List.set_cons_succ, Nat.zero_add, Nat.add_zero, Nat.mul_one, Nat.zero_mul, List.getElem_toArray, List.getElem_cons_zero, List.getElem_cons_succ]
  refine plan_p rfl rfl pr_move ?_
  try simp only [eval_tmp, eval_const, put_some, put_none, List.getD_cons_zero, List.getD_cons_succ, List.set_cons_zero, List.set_cons_succ, Nat.zero_add, Nat.add_zero, Nat.mul_one, Nat.zero_mul, List.getElem_toArray, List.getElem_cons_zero, List.getElem_cons_succ]
  refine plan_q rfl rfl (qr_call cf21 (fun w' hw => stream_nil _ _ _ w') rfl) ?_
  try simp only [eval_tmp, eval_const, put_some, put_none, List.getD_cons_zero, List.getD_cons_succ, List.set_cons_zero, List.set_cons_succ, Nat.zero_add, Nat.add_zero, Nat.mul_one, Nat.zero_mul, List.getElem_toArray, List.getElem_cons_zero, List.getElem_cons_succ]
  refine plan_p rfl rfl pr_move ?_
  try simp only [eval_tmp, eval_const, put_some, put_none, List.getD_cons_zero, List.getD_cons_succ, List.set_cons_zero, List.set_cons_succ, Nat.zero_add, Nat.add_zero, Nat.mul_one, Nat.zero_mul, List.getElem_toArray, List.getElem_cons_zero, List.getElem_cons_succ]
  refine plan_p rfl rfl (pr_extract rfl rfl) ?_
  try simp only [eval_tmp, eval_const, put_some, put_none, List.getD_cons_zero, List.getD_cons_succ, List.set_cons_zero, List.set_cons_succ, Nat.zero_add, Nat.add_zero, Nat.mul_one, Nat.zero_mul, List.getElem_toArray, List.getElem_cons_zero, List.getElem_cons_succ]
  refine plan_p rfl rfl (pr_extract rfl rfl) ?_
  try simp only [eval_tmp, eval_const, put_some, put_none, List.getD_cons_zero, List.getD_cons_succ, List.set_cons_zero, List.set_cons_succ, Nat.zero_add, Nat.add_zero, Nat.mul_one, Nat.zero_mul, List.getElem_toArray, List.getElem_cons_zero, List.getElem_cons_succ]
  refine plan_p rfl rfl pr_assign ?_
  try simp only [eval_tmp, eval_const, put_some, put_none, List.getD_cons_zero, List.getD_cons_succ, List.set_cons_zero, List.set_cons_succ, Nat.zero_add, Nat.add_zero, Nat.mul_one, Nat.zero_mul, List.getElem_toArray, List.getElem_cons_zero, List.getElem_cons_succ]
  refine plan_p rfl rfl pr_assign ?_
  try simp only [eval_tmp, eval_const, put_some, put_none, List.getD_cons_zero, List.getD_cons_succ, List.set_cons_zero, List.set_cons_succ, Nat.zero_add, Nat.add_zero, Nat.mul_one, Nat.zero_mul, List.getElem_toArray, List.getElem_cons_zero, List.getElem_cons_succ]
  refine plan_nil hH ?_
  clear hH
  intro w6 hH
  refine hK5 _ _ ?_
  try clear hK5 K5
  refine wp_seq_k ?_
  intro K7 hK7
  refine wp_region_text [.p 0, .x 1, .p 2, .p 3, .p 4, .p 5, .p 6] rfl ?_
  refine plan_p rfl rfl pr_move ?_
  try simp only [eval_tmp, eval_const, put_some, put_none, List.getD_cons_zero, List.getD_cons_succ, List.set_cons_zero, List.set_cons_succ, Nat.zero_add, Nat.add_zero, Nat.mul_one, Nat.zero_mul, List.getElem_toArray, List.getElem_cons_zero, List.getElem_cons_succ]
  refine plan_callx rfl rfl hH cf15 (fun w' hH => new_calls _ _ w' (hk.chg hH.chg) h1) rfl (fun _ _ _ h => h.choose_spec.2.1) ?_
  clear hH
  intro w8 v9 w10 hH hp11
  obtain ⟨b12, rfl, hg, hfr, hbk⟩ := hp11
  replace hH := hH.callnew hg hbk hfr
  clear hg hfr hbk
  try simp only [eval_tmp, eval_const, put_some, put_none, List.getD_cons_zero, List.getD_cons_succ, List.set_cons_zero, List.set_cons_succ, Nat.zero_add, Nat.add_zero, Nat.mul_one, Nat.zero_mul, List.getElem_toArray, List.getElem_cons_zero, List.getElem_cons_succ, List.cons_append, List.nil_append, Value.cells, arr8_set, arr32_set, arr64_set, List.setIfInBounds_toArray] at hH ⊢
  try simp only [eval_tmp, eval_const, put_some, put_none, List.getD_cons_zero, List.getD_cons_succ, List.set_cons_zero, List.set_cons_succ, Nat.zero_add, Nat.add_zero, Nat.mul_one, Nat.zero_mul, List.getElem_toArray, List.getElem_cons_zero, List.getElem_cons_succ]
  refine plan_p rfl rfl pr_move ?_
  try simp only [eval_tmp, eval_const, put_some, put_none, List.getD_cons_zero, List.getD_cons_succ, List.set_cons_zero, List.set_cons_succ, Nat.zero_add, Nat.add_zero, Nat.mul_one, Nat.zero_mul, List.getElem_toArray, List.getElem_cons_zero, List.getElem_cons_succ]
  refine plan_p rfl rfl (pr_extract rfl rfl) ?_
  try simp only [eval_tmp, eval_const, put_some, put_none, List.getD_cons_zero, List.getD_cons_succ, List.set_cons_zero, List.set_cons_succ, Nat.zero_add, Nat.add_zero, Nat.mul_one, Nat.zero_mul, List.getElem_toArray, List.getElem_cons_zero, List.getElem_cons_succ]
  refine plan_p rfl rfl (pr_extract rfl rfl) ?_
  try simp only [eval_tmp, eval_const, put_some, put_none, List.getD_cons_zero, List.getD_cons_succ, List.set_cons_zero, List.set_cons_succ, Nat.zero_add, Nat.add_zero, Nat.mul_one, Nat.zero_mul, List.getElem_toArray, List.getElem_cons_zero, List.getElem_cons_succ]
  refine plan_p rfl rfl pr_assign ?_
  try simp only [eval_tmp, eval_const, put_some, put_none, List.getD_cons_zero, List.getD_cons_succ, List.set_cons_zero, List.set_cons_succ, Nat.zero_add, Nat.add_zero, Nat.mul_one, Nat.zero_mul, List.getElem_toArray, List.getElem_cons_zero, List.getElem_cons_succ]
  refine plan_p rfl rfl pr_assign ?_
  try simp only [eval_tmp, eval_const, put_some, put_none, List.getD_cons_zero, List.getD_cons_succ, List.set_cons_zero, List.set_cons_succ, Nat.zero_add, Nat.add_zero, Nat.mul_one, Nat.zero_mul, List.getElem_toArray, List.getElem_cons_zero, List.getElem_cons_succ]
  refine plan_nil hH ?_
  clear hH
  intro w13 hH
  refine hK7 _ _ ?_
  try clear hK7 K7
  refine wp_seq_k ?_
  intro K14 hK14
  refine wp_seq_k ?_
  intro K15 hK15
  refine wp_region_text [.q 0, .p 1, .p 2, .p 3, .p 4, .p 5, .p 6, .p 7, .p 8, .p 9, .p 10, .p 11, .p 12, .p 13, .p 14, .p 15, .p 16, .p 17, .p 18, .p 19, .p 20, .p 21, .p 22, .p 23, .p 24, .p 25, .p 26, .p 27, .p 28, .p 29, .p 30, .p 31, .p 32] rfl ?_
  refine plan_q rfl rfl (qr_call cf16 (fun w' hw => turns_calls w') rfl) ?_
  try simp only [eval_tmp, eval_const, put_some, put_none, List.getD_cons_zero, List.getD_cons_succ, List.set_cons_zero, List.set_cons_succ, Nat.zero_add, Nat.add_zero, Nat.mul_one, Nat.zero_mul, List.getElem_toArray, List.getElem_cons_zero, List.getElem_cons_succ]
  refine plan_p rfl rfl (pr_not rfl) ?_
  try simp only [eval_tmp, eval_const, put_some, put_none, List.getD_cons_zero, List.getD_cons_succ, List.set_cons_zero, List.set_cons_succ, Nat.zero_add, Nat.add_zero, Nat.mul_one, Nat.zero_mul, List.getElem_toArray, List.getElem_cons_zero, List.getElem_cons_succ]
  refine plan_p (v := BV false) rfl rfl (pr_move_v rfl) ?_
  try simp only [eval_tmp, eval_const, put_some, put_none, List.getD_cons_zero, List.getD_cons_succ, List.set_cons_zero, List.set_cons_succ, Nat.zero_add, Nat.add_zero, Nat.mul_one, Nat.zero_mul, List.getElem_toArray, List.getElem_cons_zero, List.getElem_cons_succ]
  refine plan_p rfl rfl pr_move ?_
  try simp only [eval_tmp, eval_const, put_some, put_none, List.getD_cons_zero, List.getD_cons_succ, List.set_cons_zero, List.set_cons_succ, Nat.zero_add, Nat.add_zero, Nat.mul_one, Nat.zero_mul, List.getElem_toArray, List.getElem_cons_zero, List.getElem_cons_succ]
  refine plan_p rfl rfl (pr_bin rfl rfl (by first | exact bin_neq_n (n := 1)  | exact bin_neq_i)) ?_
  try simp only [eval_tmp, eval_const, put_some, put_none, List.getD_cons_zero, List.getD_cons_succ, List.set_cons_zero, List.set_cons_succ, Nat.zero_add, Nat.add_zero, Nat.mul_one, Nat.zero_mul, List.getElem_toArray, List.getElem_cons_zero, List.getElem_cons_succ]
  refine plan_p rfl rfl (pr_pick_f rfl) ?_
  try simp only [eval_tmp, eval_const, put_some, put_none, List.getD_cons_zero, List.getD_cons_succ, List.set_cons_zero, List.set_cons_succ, Nat.zero_add, Nat.add_zero, Nat.mul_one, Nat.zero_mul, List.getElem_toArray, List.getElem_cons_zero, List.getElem_cons_succ]
  refine plan_p (v := BV false) rfl rfl (pr_move_v rfl) ?_
  try simp only [eval_tmp, eval_const, put_some, put_none, List.getD_cons_zero, List.getD_cons_succ, List.set_cons_zero, List.set_cons_succ, Nat.zero_add, Nat.add_zero, Nat.mul_one, Nat.zero_mul, List.getElem_toArray, List.getElem_cons_zero, List.getElem_cons_succ]
  refine plan_p rfl rfl pr_move ?_
  try simp only [eval_tmp, eval_const, put_some, put_none, List.getD_cons_zero, List.getD_cons_succ, List.set_cons_zero, List.set_cons_succ, Nat.zero_add, Nat.add_zero, Nat.mul_one, Nat.zero_mul, List.getElem_toArray, List.getElem_cons_zero, List.getElem_cons_succ]
  refine plan_p rfl rfl (pr_bin rfl rfl (by first | exact bin_neq_n (n := 1)  | exact bin_neq_i)) ?_
  try simp only [eval_tmp, eval_const, put_some, put_none, List.getD_cons_zero, List.getD_cons_succ, List.set_cons_zero, List.set_cons_succ, Nat.zero_add, Nat.add_zero, Nat.mul_one, Nat.zero_mul, List.getElem_toArray, List.getElem_cons_zero, List.getElem_cons_succ]
  refine plan_p rfl rfl (pr_pick_f rfl) ?_
  try simp only [eval_tmp, eval_const, put_some, put_none, List.getD_cons_zero, List.getD_cons_succ, List.set_cons_zero, List.set_cons_succ, Nat.zero_add, Nat.add_zero, Nat.mul_one, Nat.zero_mul, List.getElem_toArray, List.getElem_cons_zero, List.getElem_cons_succ]
  refine plan_p (v := BV false) rfl rfl (pr_move_v rfl) ?_
  try simp only [eval_tmp, eval_const, put_some, put_none, List.getD_cons_zero, List.getD_cons_succ, List.set_cons_zero, List.set_cons_succ, Nat.zero_add, Nat.add_zero, Nat.mul_one, Nat.zero_mul, List.getElem_toArray, List.getElem_cons_zero, List.getElem_cons_succ]
  refine plan_p rfl rfl pr_move ?_
  try simp only [eval_tmp, eval_const, put_some, put_none, List.getD_cons_zero, List.getD_cons_succ, List.set_cons_zero, List.set_cons_succ, Nat.zero_add, Nat.add_zero, Nat.mul_one, Nat.zero_mul, List.getElem_toArray, List.getElem_cons_zero, List.getElem_cons_succ]
  refine plan_p rfl rfl (pr_bin rfl rfl (by first | exact bin_eql_n (n := 0)  | exact bin_eql_i)) ?_
  try simp only [eval_tmp, eval_const, put_some, put_none, List.getD_cons_zero, List.getD_cons_succ, List.set_cons_zero, List.set_cons_succ, Nat.zero_add, Nat.add_zero, Nat.mul_one, Nat.zero_mul, List.getElem_toArray, List.getElem_cons_zero, List.getElem_cons_succ]
  refine plan_p rfl rfl pr_move ?_
  try simp only [eval_tmp, eval_const, put_some, put_none, List.getD_cons_zero, List.getD_cons_succ, List.set_cons_zero, List.set_cons_succ, Nat.zero_add, Nat.add_zero, Nat.mul_one, Nat.zero_mul, List.getElem_toArray, List.getElem_cons_zero, List.getElem_cons_succ]
  refine plan_p rfl rfl (pr_len_Sl (hk.chg hH.chg) rfl Try.underlying27) ?_
  try simp only [eval_tmp, eval_const, put_some, put_none, List.getD_cons_zero, List.getD_cons_succ, List.set_cons_zero, List.set_cons_succ, Nat.zero_add, Nat.add_zero, Nat.mul_one, Nat.zero_mul, List.getElem_toArray, List.getElem_cons_zero, List.getElem_cons_succ]
  refine plan_p rfl rfl (pr_bin rfl rfl (by first | exact bin_eql_n (n := 16)  | exact bin_eql_i)) ?_
  try simp only [eval_tmp, eval_const, put_some, put_none, List.getD_cons_zero, List.getD_cons_succ, List.set_cons_zero, List.set_cons_succ, Nat.zero_add, Nat.add_zero, Nat.mul_one, Nat.zero_mul, List.getElem_toArray, List.getElem_cons_zero, List.getElem_cons_succ]
  refine plan_p rfl rfl (pr_bin rfl rfl (bin_neq_b Try.underlying4)) ?_
  try simp only [eval_tmp, eval_const, put_some, put_none, List.getD_cons_zero, List.getD_cons_succ, List.set_cons_zero, List.set_cons_succ, Nat.zero_add, Nat.add_zero, Nat.mul_one, Nat.zero_mul, List.getElem_toArray, List.getElem_cons_zero, List.getElem_cons_succ]
  refine plan_p rfl rfl (pr_pick_f rfl) ?_
  try simp only [eval_tmp, eval_const, put_some, put_none, List.getD_cons_zero, List.getD_cons_succ, List.set_cons_zero, List.set_cons_succ, Nat.zero_add, Nat.add_zero, Nat.mul_one, Nat.zero_mul, List.getElem_toArray, List.getElem_cons_zero, List.getElem_cons_succ]
  refine plan_p (v := BV false) rfl rfl (pr_move_v (by show BV _ = _; rw [h1]; rfl)) ?_
  try simp only [eval_tmp, eval_const, put_some, put_none, List.getD_cons_zero, List.getD_cons_succ, List.set_cons_zero, List.set_cons_succ, Nat.zero_add, Nat.add_zero, Nat.mul_one, Nat.zero_mul, List.getElem_toArray, List.getElem_cons_zero, List.getElem_cons_succ]
  refine plan_p rfl rfl pr_move ?_
  try simp only [eval_tmp, eval_const, put_some, put_none, List.getD_cons_zero, List.getD_cons_succ, List.set_cons_zero, List.set_cons_succ, Nat.zero_add, Nat.add_zero, Nat.mul_one, Nat.zero_mul, List.getElem_toArray, List.getElem_cons_zero, List.getElem_cons_succ]
  refine plan_p rfl rfl (pr_bin rfl rfl (bin_neq_pn Try.underlying23)) ?_
  try simp only [eval_tmp, eval_const, put_some, put_none, List.getD_cons_zero, List.getD_cons_succ, List.set_cons_zero, List.set_cons_succ, Nat.zero_add, Nat.add_zero, Nat.mul_one, Nat.zero_mul, List.getElem_toArray, List.getElem_cons_zero, List.getElem_cons_succ]
  refine plan_p rfl rfl pr_move ?_
  try simp only [eval_tmp, eval_const, put_some, put_none, List.getD_cons_zero, List.getD_cons_succ, List.set_cons_zero, List.set_cons_succ, Nat.zero_add, Nat.add_zero, Nat.mul_one, Nat.zero_mul, List.getElem_toArray, List.getElem_cons_zero, List.getElem_cons_succ]
  refine plan_p rfl rfl (pr_bin rfl rfl (by first | exact bin_eql_n (n := 0)  | exact bin_eql_i)) ?_
  try simp only [eval_tmp, eval_const, put_some, put_none, List.getD_cons_zero, List.getD_cons_succ, List.set_cons_zero, List.set_cons_succ, Nat.zero_add, Nat.add_zero, Nat.mul_one, Nat.zero_mul, List.getElem_toArray, List.getElem_cons_zero, List.getElem_cons_succ]
  refine plan_p rfl rfl (pr_bin rfl rfl (bin_neq_b Try.underlying4)) ?_
  try simp only [eval_tmp, eval_const, put_some, put_none, List.getD_cons_zero, List.getD_cons_succ, List.set_cons_zero, List.set_cons_succ, Nat.zero_add, Nat.add_zero, Nat.mul_one, Nat.zero_mul, List.getElem_toArray, List.getElem_cons_zero, List.getElem_cons_succ]
  refine plan_p rfl rfl (pr_pick_f rfl) ?_
  try simp only [eval_tmp, eval_const, put_some, put_none, List.getD_cons_zero, List.getD_cons_succ, List.set_cons_zero, List.set_cons_succ, Nat.zero_add, Nat.add_zero, Nat.mul_one, Nat.zero_mul, List.getElem_toArray, List.getElem_cons_zero, List.getElem_cons_succ]
  refine plan_p (v := BV false) rfl rfl (pr_move_v rfl) ?_
  try simp only [eval_tmp, eval_const, put_some, put_none, List.getD_cons_zero, List.getD_cons_succ, List.set_cons_zero, List.set_cons_succ, Nat.zero_add, Nat.add_zero, Nat.mul_one, Nat.zero_mul, List.getElem_toArray, List.getElem_cons_zero, List.getElem_cons_succ]
  refine plan_p rfl rfl pr_move ?_
  try simp only [eval_tmp, eval_const, put_some, put_none, List.getD_cons_zero, List.getD_cons_succ, List.set_cons_zero, List.set_cons_succ, Nat.zero_add, Nat.add_zero, Nat.mul_one, Nat.zero_mul, List.getElem_toArray, List.getElem_cons_zero, List.getElem_cons_succ]
  refine plan_p rfl rfl (pr_bin rfl rfl (by first | exact bin_neq_n (n := 0)  | exact bin_neq_i)) ?_
  try simp only [eval_tmp, eval_const, put_some, put_none, List.getD_cons_zero, List.getD_cons_succ, List.set_cons_zero, List.set_cons_succ, Nat.zero_add, Nat.add_zero, Nat.mul_one, Nat.zero_mul, List.getElem_toArray, List.getElem_cons_zero, List.getElem_cons_succ]
  refine plan_p (v := BV false) rfl rfl (pr_move_v rfl) ?_
  try simp only [eval_tmp, eval_const, put_some, put_none, List.getD_cons_zero, List.getD_cons_succ, List.set_cons_zero, List.set_cons_succ, Nat.zero_add, Nat.add_zero, Nat.mul_one, Nat.zero_mul, List.getElem_toArray, List.getElem_cons_zero, List.getElem_cons_succ]
  refine plan_ps rfl rfl ?_
  try simp only [eval_tmp, eval_const, put_some, put_none, List.getD_cons_zero, List.getD_cons_succ, List.set_cons_zero, List.set_cons_succ, Nat.zero_add, Nat.add_zero, Nat.mul_one, Nat.zero_mul, List.getElem_toArray, List.getElem_cons_zero, List.getElem_cons_succ]
  refine plan_ps rfl rfl ?_
  try simp only [eval_tmp, eval_const, put_some, put_none, List.getD_cons_zero, List.getD_cons_succ, List.set_cons_zero, List.set_cons_succ, Nat.zero_add, Nat.add_zero, Nat.mul_one, Nat.zero_mul, List.getElem_toArray, List.getElem_cons_zero, List.getElem_cons_succ]
  refine plan_p rfl rfl (pr_pick_f rfl) ?_
  try simp only [eval_tmp, eval_const, put_some, put_none, List.getD_cons_zero, List.getD_cons_succ, List.set_cons_zero, List.set_cons_succ, Nat.zero_add, Nat.add_zero, Nat.mul_one, Nat.zero_mul, List.getElem_toArray, List.getElem_cons_zero, List.getElem_cons_succ]
  refine plan_p rfl rfl (pr_pick_f rfl) ?_
  try simp only [eval_tmp, eval_const, put_some, put_none, List.getD_cons_zero, List.getD_cons_succ, List.set_cons_zero, List.set_cons_succ, Nat.zero_add, Nat.add_zero, Nat.mul_one, Nat.zero_mul, List.getElem_toArray, List.getElem_cons_zero, List.getElem_cons_succ]
  refine plan_nil hH ?_
  clear hH
  intro w16 hH
  refine hK15 _ _ ?_
  try clear hK15 K15
  refine wp_cond_false rfl ?_
  refine wp_skip ?_
  refine hK14 _ _ ?_
  try clear hK14 K14
  refine wp_seq_k ?_
  intro K17 hK17
  refine wp_seq_k ?_
  intro K18 hK18
  refine wp_region_text [.p 0, .p 1] rfl ?_
  refine plan_p rfl rfl pr_move ?_
  try simp only [eval_tmp, eval_const, put_some, put_none, List.getD_cons_zero, List.getD_cons_succ, List.set_cons_zero, List.set_cons_succ, Nat.zero_add, Nat.add_zero, Nat.mul_one, Nat.zero_mul, List.getElem_toArray, List.getElem_cons_zero, List.getElem_cons_succ]
  refine plan_p rfl rfl (pr_bin rfl rfl (by first | exact bin_neq_n (n := 0)  | exact bin_neq_i)) ?_
  try simp only [eval_tmp, eval_const, put_some, put_none, List.getD_cons_zero, List.getD_cons_succ, List.set_cons_zero, List.set_cons_succ, Nat.zero_add, Nat.add_zero, Nat.mul_one, Nat.zero_mul, List.getElem_toArray, List.getElem_cons_zero, List.getElem_cons_succ]
  refine plan_nil hH ?_
  clear hH
  intro w19 hH
  refine hK18 _ _ ?_
  try clear hK18 K18
  refine wp_cond_false rfl ?_
  refine wp_skip ?_
  refine hK17 _ _ ?_
  try clear hK17 K17
  refine wp_seq_k ?_
  intro K20 hK20
  refine wp_region_text [.p 0, .p 1, .x 2, .p 3, .p 4, .p 5, .p 6, .p 7] rfl ?_
  refine plan_p rfl rfl pr_move ?_
  try simp only [eval_tmp, eval_const, put_some, put_none, List.getD_cons_zero, List.getD_cons_succ, List.set_cons_zero, List.set_cons_succ, Nat.zero_add, Nat.add_zero, Nat.mul_one, Nat.zero_mul, List.getElem_toArray, List.getElem_cons_zero, List.getElem_cons_succ]
  refine plan_p rfl rfl pr_move ?_
  try simp only [eval_tmp, eval_const, put_some, put_none, List.getD_cons_zero, List.getD_cons_succ, List.set_cons_zero, List.set_cons_succ, Nat.zero_add, Nat.add_zero, Nat.mul_one, Nat.zero_mul, List.getElem_toArray, List.getElem_cons_zero, List.getElem_cons_succ]
  refine plan_callx rfl rfl hH cf17 (fun w' hH => block_calls _ _ _ _ w' (hH.blk 0 rfl) (hb.chg hH.chg) h2) rfl (fun _ _ _ h => h.choose_spec.2.1) ?_
  clear hH
  intro w21 v22 w23 hH hp24
  obtain ⟨b25, rfl, hg, hfr, hbk⟩ := hp24
  replace hH := hH.callnew hg hbk hfr
  clear hg hfr hbk
  try simp only [eval_tmp, eval_const, put_some, put_none, List.getD_cons_zero, List.getD_cons_succ, List.set_cons_zero, List.set_cons_succ, Nat.zero_add, Nat.add_zero, Nat.mul_one, Nat.zero_mul, List.getElem_toArray, List.getElem_cons_zero, List.getElem_cons_succ, List.cons_append, List.nil_append, Value.cells, arr8_set, arr32_set, arr64_set, List.setIfInBounds_toArray] at hH ⊢
  try simp only [eval_tmp, eval_const, put_some, put_none, List.getD_cons_zero, List.getD_cons_succ, List.set_cons_zero, List.set_cons_succ, Nat.zero_add, Nat.add_zero, Nat.mul_one, Nat.zero_mul, List.getElem_toArray, List.getElem_cons_zero, List.getElem_cons_succ]
  refine plan_p rfl rfl pr_move ?_
  try simp only [eval_tmp, eval_const, put_some, put_none, List.getD_cons_zero, List.getD_cons_succ, List.set_cons_zero, List.set_cons_succ, Nat.zero_add, Nat.add_zero, Nat.mul_one, Nat.zero_mul, List.getElem_toArray, List.getElem_cons_zero, List.getElem_cons_succ]
  refine plan_p rfl rfl (pr_extract rfl rfl) ?_
  try simp only [eval_tmp, eval_const, put_some, put_none, List.getD_cons_zero, List.getD_cons_succ, List.set_cons_zero, List.set_cons_succ, Nat.zero_add, Nat.add_zero, Nat.mul_one, Nat.zero_mul, List.getElem_toArray, List.getElem_cons_zero, List.getElem_cons_succ]
  refine plan_p rfl rfl (pr_extract rfl rfl) ?_
  try simp only [eval_tmp, eval_const, put_some, put_none, List.getD_cons_zero, List.getD_cons_succ, List.set_cons_zero, List.set_cons_succ, Nat.zero_add, Nat.add_zero, Nat.mul_one, Nat.zero_mul, List.getElem_toArray, List.getElem_cons_zero, List.getElem_cons_succ]
  refine plan_p rfl rfl pr_assign ?_
  try simp only [eval_tmp, eval_const, put_some, put_none, List.getD_cons_zero, List.getD_cons_succ, List.set_cons_zero, List.set_cons_succ, Nat.zero_add, Nat.add_zero, Nat.mul_one, Nat.zero_mul, List.getElem_toArray, List.getElem_cons_zero, List.getElem_cons_succ]
  refine plan_p rfl rfl pr_assign ?_
  try simp only [eval_tmp, eval_const, put_some, put_none, List.getD_cons_zero, List.getD_cons_succ, List.set_cons_zero, List.set_cons_succ, Nat.zero_add, Nat.add_zero, Nat.mul_one, Nat.zero_mul, List.getElem_toArray, List.getElem_cons_zero, List.getElem_cons_succ]
  refine plan_nil hH ?_
  clear hH
  intro w26 hH
  refine hK20 _ _ ?_
  try clear hK20 K20
  refine wp_seq_k ?_
  intro K27 hK27
  refine wp_region_text [.p 0, .p 1, .x 2, .e 3, .x 4, .p 5, .p 6, .p 7, .p 8, .p 9] rfl ?_
  refine plan_p rfl rfl pr_move ?_
  try simp only [eval_tmp, eval_const, put_some, put_none, List.getD_cons_zero, List.getD_cons_succ, List.set_cons_zero, List.set_cons_succ, Nat.zero_add, Nat.add_zero, Nat.mul_one, Nat.zero_mul, List.getElem_toArray, List.getElem_cons_zero, List.getElem_cons_succ]
  refine plan_p rfl rfl pr_move ?_
  try simp only [eval_tmp, eval_const, put_some, put_none, List.getD_cons_zero, List.getD_cons_succ, List.set_cons_zero, List.set_cons_succ, Nat.zero_add, Nat.add_zero, Nat.mul_one, Nat.zero_mul, List.getElem_toArray, List.getElem_cons_zero, List.getElem_cons_succ]
  refine plan_buildSlice rfl rfl hH Try.underlying27 (by rfl) (bs3 97 98 99) ?_
  clear hH
  intro b28 w29 hH
  try simp only [eval_tmp, eval_const, put_some, put_none, List.getD_cons_zero, List.getD_cons_succ, List.set_cons_zero, List.set_cons_succ, Nat.zero_add, Nat.add_zero, Nat.mul_one, Nat.zero_mul, List.getElem_toArray, List.getElem_cons_zero, List.getElem_cons_succ, List.cons_append, List.nil_append, Value.cells, arr8_set, arr32_set, arr64_set, List.setIfInBounds_toArray] at hH ⊢
  refine plan_mark 2 rfl rfl hH rfl rfl Try.underlying27 Try.underlying5 ?_
  clear hH
  intro w30 hH
  try simp only [eval_tmp, eval_const, put_some, put_none, List.getD_cons_zero, List.getD_cons_succ, List.set_cons_zero, List.set_cons_succ, Nat.zero_add, Nat.add_zero, Nat.mul_one, Nat.zero_mul, List.getElem_toArray, List.getElem_cons_zero, List.getElem_cons_succ] at hH ⊢
  try simp only [eval_tmp, eval_const, put_some, put_none, List.getD_cons_zero, List.getD_cons_succ, List.set_cons_zero, List.set_cons_succ, Nat.zero_add, Nat.add_zero, Nat.mul_one, Nat.zero_mul, List.getElem_toArray, List.getElem_cons_zero, List.getElem_cons_succ, List.cons_append, List.nil_append, Value.cells, arr8_set, arr32_set, arr64_set, List.setIfInBounds_toArray] at hH ⊢
  refine plan_callx rfl rfl hH cf21 (fun w' hH => stream_calls _ _ (fun i => (bl).getD i 0) _ _ 3 _ _ w' (hH.blk 0 rfl) (hb.chg hH.chg) h2 (fun i hi => rfl) (OwnC.sl hH 2 rfl (OwnC.of_bytes rfl)) (by omega) (by simp <;> omega)) rfl (fun _ _ _ h => by obtain ⟨_, _, _, _, hg, _⟩ := h; exact hg) ?_
  clear hH
  intro w31 v32 w33 hH hp34
  obtain ⟨o35, cap36, cs37, rfl, hg, hO38, hfr⟩ := hp34
  replace hH := hH.callown hg hfr
  clear hg hfr
  try simp only [eval_tmp, eval_const, put_some, put_none, List.getD_cons_zero, List.getD_cons_succ, List.set_cons_zero, List.set_cons_succ, Nat.zero_add, Nat.add_zero, Nat.mul_one, Nat.zero_mul, List.getElem_toArray, List.getElem_cons_zero, List.getElem_cons_succ, List.cons_append, List.nil_append, Value.cells, arr8_set, arr32_set, arr64_set, List.setIfInBounds_toArray] at hH ⊢
  try simp only [eval_tmp, eval_const, put_some, put_none, List.getD_cons_zero, List.getD_cons_succ, List.set_cons_zero, List.set_cons_succ, Nat.zero_add, Nat.add_zero, Nat.mul_one, Nat.zero_mul, List.getElem_toArray, List.getElem_cons_zero, List.getElem_cons_succ]
  refine plan_p rfl rfl pr_move ?_
  try simp only [eval_tmp, eval_const, put_some, put_none, List.getD_cons_zero, List.getD_cons_succ, List.set_cons_zero, List.set_cons_succ, Nat.zero_add, Nat.add_zero, Nat.mul_one, Nat.zero_mul, List.getElem_toArray, List.getElem_cons_zero, List.getElem_cons_succ]
  refine plan_p rfl rfl (pr_extract rfl rfl) ?_
  try simp only [eval_tmp, eval_const, put_some, put_none, List.getD_cons_zero, List.getD_cons_succ, List.set_cons_zero, List.set_cons_succ, Nat.zero_add, Nat.add_zero, Nat.mul_one, Nat.zero_mul, List.getElem_toArray, List.getElem_cons_zero, List.getElem_cons_succ]
  refine plan_p rfl rfl (pr_extract rfl rfl) ?_
  try simp only [eval_tmp, eval_const, put_some, put_none, List.getD_cons_zero, List.getD_cons_succ, List.set_cons_zero, List.set_cons_succ, Nat.zero_add, Nat.add_zero, Nat.mul_one, Nat.zero_mul, List.getElem_toArray, List.getElem_cons_zero, List.getElem_cons_succ]
  refine plan_p rfl rfl pr_assign ?_
  try simp only [eval_tmp, eval_const, put_some, put_none, List.getD_cons_zero, List.getD_cons_succ, List.set_cons_zero, List.set_cons_succ, Nat.zero_add, Nat.add_zero, Nat.mul_one, Nat.zero_mul, List.getElem_toArray, List.getElem_cons_zero, List.getElem_cons_succ]
  refine plan_p rfl rfl pr_assign ?_
  try simp only [eval_tmp, eval_const, put_some, put_none, List.getD_cons_zero, List.getD_cons_succ, List.set_cons_zero, List.set_cons_succ, Nat.zero_add, Nat.add_zero, Nat.mul_one, Nat.zero_mul, List.getElem_toArray, List.getElem_cons_zero, List.getElem_cons_succ]
  refine plan_nil hH ?_
  clear hH
  intro w39 hH
  refine hK27 _ _ ?_
  try clear hK27 K27
  refine wp_seq_k ?_
  intro K40 hK40
  refine wp_seq_k ?_
  intro K41 hK41
  refine wp_region_text [.p 0, .p 1, .p 2] rfl ?_
  refine plan_p rfl rfl pr_move ?_
  try simp only [eval_tmp, eval_const, put_some, put_none, List.getD_cons_zero, List.getD_cons_succ, List.set_cons_zero, List.set_cons_succ, Nat.zero_add, Nat.add_zero, Nat.mul_one, Nat.zero_mul, List.getElem_toArray, List.getElem_cons_zero, List.getElem_cons_succ]
  refine plan_p rfl rfl (pr_len_Sl (hb.chg hH.chg) rfl Try.underlying27) ?_
  try simp only [eval_tmp, eval_const, put_some, put_none, List.getD_cons_zero, List.getD_cons_succ, List.set_cons_zero, List.set_cons_succ, Nat.zero_add, Nat.add_zero, Nat.mul_one, Nat.zero_mul, List.getElem_toArray, List.getElem_cons_zero, List.getElem_cons_succ]
  refine plan_p rfl rfl (pr_bin rfl rfl (by first | exact bin_neq_n (n := 16)  | exact bin_neq_i)) ?_
  try simp only [eval_tmp, eval_const, put_some, put_none, List.getD_cons_zero, List.getD_cons_succ, List.set_cons_zero, List.set_cons_succ, Nat.zero_add, Nat.add_zero, Nat.mul_one, Nat.zero_mul, List.getElem_toArray, List.getElem_cons_zero, List.getElem_cons_succ]
  refine plan_nil hH ?_
  clear hH
  intro w42 hH
  refine hK41 _ _ ?_
  try clear hK41 K41
  refine wp_cond_false (by show BV _ = _; rw [h2]; rfl) ?_
  refine wp_skip ?_
  refine hK40 _ _ ?_
  try clear hK40 K40
  refine wp_seq_k ?_
  intro K43 hK43
  refine wp_region_text [.p 0, .p 1, .p 2, .p 3, .p 4, .p 5, .p 6, .p 7, .p 8, .p 9, .p 10, .p 11, .p 12, .p 13, .p 14, .p 15, .p 16] rfl ?_
  refine plan_p rfl rfl pr_move ?_
  try simp only [eval_tmp, eval_const, put_some, put_none, List.getD_cons_zero, List.getD_cons_succ, List.set_cons_zero, List.set_cons_succ, Nat.zero_add, Nat.add_zero, Nat.mul_one, Nat.zero_mul, List.getElem_toArray, List.getElem_cons_zero, List.getElem_cons_succ]
  refine plan_p rfl rfl (pr_bin rfl rfl (by first | exact bin_eql_n (n := 0)  | exact bin_eql_i)) ?_
  try simp only [eval_tmp, eval_const, put_some, put_none, List.getD_cons_zero, List.getD_cons_succ, List.set_cons_zero, List.set_cons_succ, Nat.zero_add, Nat.add_zero, Nat.mul_one, Nat.zero_mul, List.getElem_toArray, List.getElem_cons_zero, List.getElem_cons_succ]
  refine plan_p (v := BV true) rfl rfl (pr_move_v rfl) ?_
  try simp only [eval_tmp, eval_const, put_some, put_none, List.getD_cons_zero, List.getD_cons_succ, List.set_cons_zero, List.set_cons_succ, Nat.zero_add, Nat.add_zero, Nat.mul_one, Nat.zero_mul, List.getElem_toArray, List.getElem_cons_zero, List.getElem_cons_succ]
  refine plan_p rfl rfl pr_move ?_
  try simp only [eval_tmp, eval_const, put_some, put_none, List.getD_cons_zero, List.getD_cons_succ, List.set_cons_zero, List.set_cons_succ, Nat.zero_add, Nat.add_zero, Nat.mul_one, Nat.zero_mul, List.getElem_toArray, List.getElem_cons_zero, List.getElem_cons_succ]
  refine plan_p rfl rfl (pr_bin rfl rfl (by first | exact bin_eql_n (n := 0)  | exact bin_eql_i)) ?_
  try simp only [eval_tmp, eval_const, put_some, put_none, List.getD_cons_zero, List.getD_cons_succ, List.set_cons_zero, List.set_cons_succ, Nat.zero_add, Nat.add_zero, Nat.mul_one, Nat.zero_mul, List.getElem_toArray, List.getElem_cons_zero, List.getElem_cons_succ]
  refine plan_p rfl rfl (pr_pick_t rfl) ?_
  try simp only [eval_tmp, eval_const, put_some, put_none, List.getD_cons_zero, List.getD_cons_succ, List.set_cons_zero, List.set_cons_succ, Nat.zero_add, Nat.add_zero, Nat.mul_one, Nat.zero_mul, List.getElem_toArray, List.getElem_cons_zero, List.getElem_cons_succ]
  refine plan_p (v := BV true) rfl rfl (pr_move_v rfl) ?_
  try simp only [eval_tmp, eval_const, put_some, put_none, List.getD_cons_zero, List.getD_cons_succ, List.set_cons_zero, List.set_cons_succ, Nat.zero_add, Nat.add_zero, Nat.mul_one, Nat.zero_mul, List.getElem_toArray, List.getElem_cons_zero, List.getElem_cons_succ]
  refine plan_p rfl rfl pr_move ?_
  try simp only [eval_tmp, eval_const, put_some, put_none, List.getD_cons_zero, List.getD_cons_succ, List.set_cons_zero, List.set_cons_succ, Nat.zero_add, Nat.add_zero, Nat.mul_one, Nat.zero_mul, List.getElem_toArray, List.getElem_cons_zero, List.getElem_cons_succ]
  refine plan_p rfl rfl (pr_len_sl rfl Try.underlying27) ?_
  try simp only [eval_tmp, eval_const, put_some, put_none, List.getD_cons_zero, List.getD_cons_succ, List.set_cons_zero, List.set_cons_succ, Nat.zero_add, Nat.add_zero, Nat.mul_one, Nat.zero_mul, List.getElem_toArray, List.getElem_cons_zero, List.getElem_cons_succ]
  refine plan_p rfl rfl (pr_bin rfl rfl (by first | exact bin_eql_n (n := 16)  | exact bin_eql_i)) ?_
  try simp only [eval_tmp, eval_const, put_some, put_none, List.getD_cons_zero, List.getD_cons_succ, List.set_cons_zero, List.set_cons_succ, Nat.zero_add, Nat.add_zero, Nat.mul_one, Nat.zero_mul, List.getElem_toArray, List.getElem_cons_zero, List.getElem_cons_succ]
  refine plan_p rfl rfl (pr_pick_t rfl) ?_
  try simp only [eval_tmp, eval_const, put_some, put_none, List.getD_cons_zero, List.getD_cons_succ, List.set_cons_zero, List.set_cons_succ, Nat.zero_add, Nat.add_zero, Nat.mul_one, Nat.zero_mul, List.getElem_toArray, List.getElem_cons_zero, List.getElem_cons_succ]
  refine plan_p (v := BV true) rfl rfl (pr_move_v rfl) ?_
  try simp only [eval_tmp, eval_const, put_some, put_none, List.getD_cons_zero, List.getD_cons_succ, List.set_cons_zero, List.set_cons_succ, Nat.zero_add, Nat.add_zero, Nat.mul_one, Nat.zero_mul, List.getElem_toArray, List.getElem_cons_zero, List.getElem_cons_succ]
  refine plan_p rfl rfl pr_move ?_
  try simp only [eval_tmp, eval_const, put_some, put_none, List.getD_cons_zero, List.getD_cons_succ, List.set_cons_zero, List.set_cons_succ, Nat.zero_add, Nat.add_zero, Nat.mul_one, Nat.zero_mul, List.getElem_toArray, List.getElem_cons_zero, List.getElem_cons_succ]
  refine plan_p rfl rfl (pr_len_sl rfl Try.underlying27) ?_
  try simp only [eval_tmp, eval_const, put_some, put_none, List.getD_cons_zero, List.getD_cons_succ, List.set_cons_zero, List.set_cons_succ, Nat.zero_add, Nat.add_zero, Nat.mul_one, Nat.zero_mul, List.getElem_toArray, List.getElem_cons_zero, List.getElem_cons_succ]
  refine plan_p rfl rfl (pr_bin rfl rfl (by first | exact bin_eql_n (n := 3)  | exact bin_eql_i)) ?_
  try simp only [eval_tmp, eval_const, put_some, put_none, List.getD_cons_zero, List.getD_cons_succ, List.set_cons_zero, List.set_cons_succ, Nat.zero_add, Nat.add_zero, Nat.mul_one, Nat.zero_mul, List.getElem_toArray, List.getElem_cons_zero, List.getElem_cons_succ]
  refine plan_p rfl rfl (pr_pick_t rfl) ?_
  try simp only [eval_tmp, eval_const, put_some, put_none, List.getD_cons_zero, List.getD_cons_succ, List.set_cons_zero, List.set_cons_succ, Nat.zero_add, Nat.add_zero, Nat.mul_one, Nat.zero_mul, List.getElem_toArray, List.getElem_cons_zero, List.getElem_cons_succ]
  refine plan_p rfl rfl pr_assign ?_
  try simp only [eval_tmp, eval_const, put_some, put_none, List.getD_cons_zero, List.getD_cons_succ, List.set_cons_zero, List.set_cons_succ, Nat.zero_add, Nat.add_zero, Nat.mul_one, Nat.zero_mul, List.getElem_toArray, List.getElem_cons_zero, List.getElem_cons_succ]
  refine plan_nil hH ?_
  clear hH
  intro w44 hH
  refine hK43 _ _ ?_
  try clear hK43 K43
  refine wp_ret ?_
  try simp only [Exit.then, Exit.inBlock, ↓reduceIte, Nat.reduceEqDiff]
  refine BP.ret1 rfl rfl ?_
  exact ⟨rfl, hH.chg⟩

theorem sizes_calls (kv bv : Value) (kl bl : List UInt8) (w : World) (hk : Sl w kv kl) (hb : Sl w bv bl) : Ret Try.prog 5 #[kv, bv] w fun v w' => v = BV true ∧ Chg [] w w' := by
  by_cases h1 : kl.length = 16
  · by_cases h2 : bl.length = 16
    · exact sizes_both kv bv kl bl w hk hb h1 h2
    · exact sizes_block kv bv kl bl w hk hb h1 h2
  · exact sizes_key kv bv kl bl w hk hb h1 trivial

end Go.Proofs.Ytjbohfonjalfnaa
