/- The walk of the law AesBlock. No conditions. -/
import Derived.Test.YtjbohfonjalfnaaAes5
set_option linter.unusedSimpArgs false
set_option linter.unusedVariables false
set_option maxRecDepth 100000
set_option maxHeartbeats 4000000
namespace Go.Proofs.Ytjbohfonjalfnaa
open Go

theorem strlen_at (l : List UInt8) : (ByteArray.mk l.toArray).size = l.length := by simp [ByteArray.size]

theorem aesblock_calls (f g : Nat → UInt8) (w : World) : Ret Try.prog 3 #[.agg (arr8 16 f), .agg (arr8 16 g)] w fun v w' => v = BV true ∧ Chg [] w w' := by
  refine Ret.enter Try.func3 rfl ?_
  simp only [Try.ntmps3, List.size_toArray, List.length_cons, List.length_nil, Nat.reduceAdd, Nat.reduceSub, frame_enter, List.replicate_succ, List.replicate_zero, List.nil_append, List.cons_append]
  have hH := Hp.start [] w
  refine wp_seq_k ?_
  intro K1 hK1
  refine wp_region_text [.x 0, .x 1, .p 2] rfl ?_
  refine plan_box rfl rfl hH rfl ?_
  clear hH
  intro b2 w3 hH
  try simp only [eval_tmp, eval_const, put_some, put_none, List.getD_cons_zero, List.getD_cons_succ, List.set_cons_zero, List.set_cons_succ, Nat.zero_add, Nat.add_zero, Nat.mul_one, Nat.zero_mul, List.getElem_toArray, List.getElem_cons_zero, List.getElem_cons_succ, List.cons_append, List.nil_append, Value.cells, arr8_set, arr32_set, arr64_set, List.setIfInBounds_toArray] at hH ⊢
  refine plan_box rfl rfl hH rfl ?_
  clear hH
  intro b4 w5 hH
  try simp only [eval_tmp, eval_const, put_some, put_none, List.getD_cons_zero, List.getD_cons_succ, List.set_cons_zero, List.set_cons_succ, Nat.zero_add, Nat.add_zero, Nat.mul_one, Nat.zero_mul, List.getElem_toArray, List.getElem_cons_zero, List.getElem_cons_succ, List.cons_append, List.nil_append, Value.cells, arr8_set, arr32_set, arr64_set, List.setIfInBounds_toArray] at hH ⊢
  refine plan_p rfl rfl pr_assign ?_
  try simp only [eval_tmp, eval_const, put_some, put_none, List.getD_cons_zero, List.getD_cons_succ, List.set_cons_zero, List.set_cons_succ, Nat.zero_add, Nat.add_zero, Nat.mul_one, Nat.zero_mul, List.getElem_toArray, List.getElem_cons_zero, List.getElem_cons_succ]
  refine plan_nil hH ?_
  clear hH
  intro w6 hH
  refine hK1 _ _ ?_
  try clear hK1 K1
  refine wp_seq_k ?_
  intro K7 hK7
  refine wp_region_text [.p 0, .x 1, .p 2, .p 3, .p 4, .p 5, .p 6] rfl ?_
  refine plan_p rfl rfl (pr_slice_arr_all rfl Try.underlying22 sz5) ?_
  try simp only [eval_tmp, eval_const, put_some, put_none, List.getD_cons_zero, List.getD_cons_succ, List.set_cons_zero, List.set_cons_succ, Nat.zero_add, Nat.add_zero, Nat.mul_one, Nat.zero_mul, List.getElem_toArray, List.getElem_cons_zero, List.getElem_cons_succ]
  try simp only [Nat.mul_one, Nat.zero_add, Nat.add_sub_cancel_left]
  refine plan_callx rfl rfl hH cf15 (fun w' hH => new_calls _ _ w' (Sl.of_arr8 (hH.blk 0 rfl) (by omega) (by omega)) (by simp)) rfl (fun _ _ _ h => h.choose_spec.2.1) ?_
  clear hH
  intro w8 v9 w10 hH hp11
  obtain ⟨b12, rfl, hg, hfr, hbk⟩ := hp11
  replace hH := hH.callnew hg hbk hfr
  clear hg hfr hbk
  try simp only [eval_tmp, eval_const, put_some, put_none, List.getD_cons_zero, List.getD_cons_succ, List.set_cons_zero, List.set_cons_succ, Nat.zero_add, Nat.add_zero, Nat.mul_one, Nat.zero_mul, List.getElem_toArray, List.getElem_cons_zero, List.getElem_cons_succ, List.cons_append, List.nil_append, Value.cells, arr8_set, arr32_set, arr64_set, List.setIfInBounds_toArray] at hH ⊢
  try simp only [eval_tmp, eval_const, put_some, put_none, List.getD_cons_zero, List.getD_cons_succ, List.set_cons_zero, List.set_cons_succ, Nat.zero_add, Nat.add_zero, Nat.mul_one, Nat.zero_mul, List.getElem_toArray, List.getElem_cons_zero, List.getElem_cons_succ]
  refine plan_p rfl rfl pr_move ?_
  try simp only [eval_tmp, eval_const, put_some, put_none, List.getD_cons_zero, List.getD_cons_succ, List.set_cons_zero, List.set_cons_succ, Nat.zero_add, Nat.add_zero, Nat.mul_one, Nat.zero_mul, List.getElem_toArray, List.getElem_cons_zero, List.getElem_cons_succ]
  refine plan_p rfl rfl (pr_extract rfl rfl) ?_
  try simp only [eval_tmp, eval_const, put_some, put_none, List.getD_cons_zero, List.getD_cons_succ, List.set_cons_zero, List.set_cons_succ, Nat.zero_add, Nat.add_zero, Nat.mul_one, Nat.zero_mul, List.getElem_toArray, List.getElem_cons_zero, List.getElem_cons_succ]
  refine plan_p rfl rfl (pr_extract rfl rfl) ?_
  try simp only [eval_tmp, eval_const, put_some, put_none, List.getD_cons_zero, List.getD_cons_succ, List.set_cons_zero, List.set_cons_succ, Nat.zero_add, Nat.add_zero, Nat.mul_one, Nat.zero_mul, List.getElem_toArray, List.getElem_cons_zero, List.getElem_cons_succ]
  refine plan_p rfl rfl pr_assign ?_
  try simp only [eval_tmp, eval_const, put_some, put_none, List.getD_cons_zero, List.getD_cons_succ, List.set_cons_zero, List.set_cons_succ, Nat.zero_add, Nat.add_zero, Nat.mul_one, Nat.zero_mul, List.getElem_toArray, List.getElem_cons_zero, List.getElem_cons_succ]
  refine plan_p rfl rfl pr_assign ?_
  try simp only [eval_tmp, eval_const, put_some, put_none, List.getD_cons_zero, List.getD_cons_succ, List.set_cons_zero, List.set_cons_succ, Nat.zero_add, Nat.add_zero, Nat.mul_one, Nat.zero_mul, List.getElem_toArray, List.getElem_cons_zero, List.getElem_cons_succ]
  refine plan_nil hH ?_
  clear hH
  intro w13 hH
  refine hK7 _ _ ?_
  try clear hK7 K7
  refine wp_seq_k ?_
  intro K14 hK14
  refine wp_seq_k ?_
  intro K15 hK15
  refine wp_region_text [.q 0, .p 1, .p 2, .p 3, .p 4, .p 5] rfl ?_
  refine plan_q rfl rfl (qr_call cf16 (fun w' hw => turns_calls w') rfl) ?_
  try simp only [eval_tmp, eval_const, put_some, put_none, List.getD_cons_zero, List.getD_cons_succ, List.set_cons_zero, List.set_cons_succ, Nat.zero_add, Nat.add_zero, Nat.mul_one, Nat.zero_mul, List.getElem_toArray, List.getElem_cons_zero, List.getElem_cons_succ]
  refine plan_p rfl rfl (pr_not rfl) ?_
  try simp only [eval_tmp, eval_const, put_some, put_none, List.getD_cons_zero, List.getD_cons_succ, List.set_cons_zero, List.set_cons_succ, Nat.zero_add, Nat.add_zero, Nat.mul_one, Nat.zero_mul, List.getElem_toArray, List.getElem_cons_zero, List.getElem_cons_succ]
  refine plan_p (v := BV false) rfl rfl (pr_move_v rfl) ?_
  try simp only [eval_tmp, eval_const, put_some, put_none, List.getD_cons_zero, List.getD_cons_succ, List.set_cons_zero, List.set_cons_succ, Nat.zero_add, Nat.add_zero, Nat.mul_one, Nat.zero_mul, List.getElem_toArray, List.getElem_cons_zero, List.getElem_cons_succ]
  refine plan_p rfl rfl pr_move ?_
  try simp only [eval_tmp, eval_const, put_some, put_none, List.getD_cons_zero, List.getD_cons_succ, List.set_cons_zero, List.set_cons_succ, Nat.zero_add, Nat.add_zero, Nat.mul_one, Nat.zero_mul, List.getElem_toArray, List.getElem_cons_zero, List.getElem_cons_succ]
  refine plan_p rfl rfl (pr_bin rfl rfl (by first | exact bin_neq_n (n := 0)  | exact bin_neq_i)) ?_
  try simp only [eval_tmp, eval_const, put_some, put_none, List.getD_cons_zero, List.getD_cons_succ, List.set_cons_zero, List.set_cons_succ, Nat.zero_add, Nat.add_zero, Nat.mul_one, Nat.zero_mul, List.getElem_toArray, List.getElem_cons_zero, List.getElem_cons_succ]
  refine plan_p rfl rfl (pr_pick_f rfl) ?_
  try simp only [eval_tmp, eval_const, put_some, put_none, List.getD_cons_zero, List.getD_cons_succ, List.set_cons_zero, List.set_cons_succ, Nat.zero_add, Nat.add_zero, Nat.mul_one, Nat.zero_mul, List.getElem_toArray, List.getElem_cons_zero, List.getElem_cons_succ]
  refine plan_nil hH ?_
  clear hH
  intro w16 hH
  refine hK15 _ _ ?_
  try clear hK15 K15
  refine wp_cond_false rfl ?_
  refine wp_skip ?_
  refine hK14 _ _ ?_
  try clear hK14 K14
  refine wp_seq_k ?_
  intro K17 hK17
  refine wp_region_text [.p 0, .p 1, .x 2, .p 3, .p 4, .p 5, .p 6, .p 7] rfl ?_
  refine plan_p rfl rfl pr_move ?_
  try simp only [eval_tmp, eval_const, put_some, put_none, List.getD_cons_zero, List.getD_cons_succ, List.set_cons_zero, List.set_cons_succ, Nat.zero_add, Nat.add_zero, Nat.mul_one, Nat.zero_mul, List.getElem_toArray, List.getElem_cons_zero, List.getElem_cons_succ]
  refine plan_p rfl rfl (pr_slice_arr_all rfl Try.underlying22 sz5) ?_
  try simp only [eval_tmp, eval_const, put_some, put_none, List.getD_cons_zero, List.getD_cons_succ, List.set_cons_zero, List.set_cons_succ, Nat.zero_add, Nat.add_zero, Nat.mul_one, Nat.zero_mul, List.getElem_toArray, List.getElem_cons_zero, List.getElem_cons_succ]
  try simp only [Nat.mul_one, Nat.zero_add, Nat.add_sub_cancel_left]
  refine plan_callx rfl rfl hH cf17 (fun w' hH => block_calls _ _ _ _ w' (hH.blk 2 rfl) (Sl.of_arr8 (hH.blk 1 rfl) (by omega) (by omega)) (by simp)) rfl (fun _ _ _ h => h.choose_spec.2.1) ?_
  clear hH
  intro w18 v19 w20 hH hp21
  obtain ⟨b22, rfl, hg, hfr, hbk⟩ := hp21
  replace hH := hH.callnew hg hbk hfr
  clear hg hfr hbk
  try simp only [eval_tmp, eval_const, put_some, put_none, List.getD_cons_zero, List.getD_cons_succ, List.set_cons_zero, List.set_cons_succ, Nat.zero_add, Nat.add_zero, Nat.mul_one, Nat.zero_mul, List.getElem_toArray, List.getElem_cons_zero, List.getElem_cons_succ, List.cons_append, List.nil_append, Value.cells, arr8_set, arr32_set, arr64_set, List.setIfInBounds_toArray] at hH ⊢
  try simp only [eval_tmp, eval_const, put_some, put_none, List.getD_cons_zero, List.getD_cons_succ, List.set_cons_zero, List.set_cons_succ, Nat.zero_add, Nat.add_zero, Nat.mul_one, Nat.zero_mul, List.getElem_toArray, List.getElem_cons_zero, List.getElem_cons_succ]
  refine plan_p rfl rfl pr_move ?_
  try simp only [eval_tmp, eval_const, put_some, put_none, List.getD_cons_zero, List.getD_cons_succ, List.set_cons_zero, List.set_cons_succ, Nat.zero_add, Nat.add_zero, Nat.mul_one, Nat.zero_mul, List.getElem_toArray, List.getElem_cons_zero, List.getElem_cons_succ]
  refine plan_p rfl rfl (pr_extract rfl rfl) ?_
  try simp only [eval_tmp, eval_const, put_some, put_none, List.getD_cons_zero, List.getD_cons_succ, List.set_cons_zero, List.set_cons_succ, Nat.zero_add, Nat.add_zero, Nat.mul_one, Nat.zero_mul, List.getElem_toArray, List.getElem_cons_zero, List.getElem_cons_succ]
  refine plan_p rfl rfl (pr_extract rfl rfl) ?_
  try simp only [eval_tmp, eval_const, put_some, put_none, List.getD_cons_zero, List.getD_cons_succ, List.set_cons_zero, List.set_cons_succ, Nat.zero_add, Nat.add_zero, Nat.mul_one, Nat.zero_mul, List.getElem_toArray, List.getElem_cons_zero, List.getElem_cons_succ]
  refine plan_p rfl rfl pr_assign ?_
  try simp only [eval_tmp, eval_const, put_some, put_none, List.getD_cons_zero, List.getD_cons_succ, List.set_cons_zero, List.set_cons_succ, Nat.zero_add, Nat.add_zero, Nat.mul_one, Nat.zero_mul, List.getElem_toArray, List.getElem_cons_zero, List.getElem_cons_succ]
  refine plan_p rfl rfl pr_assign ?_
  try simp only [eval_tmp, eval_const, put_some, put_none, List.getD_cons_zero, List.getD_cons_succ, List.set_cons_zero, List.set_cons_succ, Nat.zero_add, Nat.add_zero, Nat.mul_one, Nat.zero_mul, List.getElem_toArray, List.getElem_cons_zero, List.getElem_cons_succ]
  refine plan_nil hH ?_
  clear hH
  intro w23 hH
  refine hK17 _ _ ?_
  try clear hK17 K17
  refine wp_seq_k ?_
  intro K24 hK24
  refine wp_region_plan [.p 0, .p 1, .p 2, .p 3, .p 5, .p 8, .q 4, .q 6, .q 9, .x 7, .q 10, .p 11, .p 12, .p 13] (by kernel_rfl) (by kernel_rfl) (by kernel_rfl) (by kernel_rfl) (fun _ _ _ _ _ h => by first | exact h | exact BP.panic _ _ _ _ _ h) ?_
  refine plan_p rfl rfl pr_move ?_
  try simp only [eval_tmp, eval_const, put_some, put_none, List.getD_cons_zero, List.getD_cons_succ, List.set_cons_zero, List.set_cons_succ, Nat.zero_add, Nat.add_zero, Nat.mul_one, Nat.zero_mul, List.getElem_toArray, List.getElem_cons_zero, List.getElem_cons_succ]
  refine plan_p rfl rfl (pr_bin rfl rfl (by first | exact bin_eql_n (n := 0)  | exact bin_eql_i)) ?_
  try simp only [eval_tmp, eval_const, put_some, put_none, List.getD_cons_zero, List.getD_cons_succ, List.set_cons_zero, List.set_cons_succ, Nat.zero_add, Nat.add_zero, Nat.mul_one, Nat.zero_mul, List.getElem_toArray, List.getElem_cons_zero, List.getElem_cons_succ]
  refine plan_p (v := BV true) rfl rfl (pr_move_v rfl) ?_
  try simp only [eval_tmp, eval_const, put_some, put_none, List.getD_cons_zero, List.getD_cons_succ, List.set_cons_zero, List.set_cons_succ, Nat.zero_add, Nat.add_zero, Nat.mul_one, Nat.zero_mul, List.getElem_toArray, List.getElem_cons_zero, List.getElem_cons_succ]
  refine plan_p rfl rfl pr_move ?_
  try simp only [eval_tmp, eval_const, put_some, put_none, List.getD_cons_zero, List.getD_cons_succ, List.set_cons_zero, List.set_cons_succ, Nat.zero_add, Nat.add_zero, Nat.mul_one, Nat.zero_mul, List.getElem_toArray, List.getElem_cons_zero, List.getElem_cons_succ]
  refine plan_p rfl rfl (pr_slice_arr_all rfl Try.underlying22 sz5) ?_
  try simp only [eval_tmp, eval_const, put_some, put_none, List.getD_cons_zero, List.getD_cons_succ, List.set_cons_zero, List.set_cons_succ, Nat.zero_add, Nat.add_zero, Nat.mul_one, Nat.zero_mul, List.getElem_toArray, List.getElem_cons_zero, List.getElem_cons_succ]
  try simp only [Nat.mul_one, Nat.zero_add, Nat.add_sub_cancel_left]
  refine plan_p rfl rfl (pr_slice_arr_all rfl Try.underlying22 sz5) ?_
  try simp only [eval_tmp, eval_const, put_some, put_none, List.getD_cons_zero, List.getD_cons_succ, List.set_cons_zero, List.set_cons_succ, Nat.zero_add, Nat.add_zero, Nat.mul_one, Nat.zero_mul, List.getElem_toArray, List.getElem_cons_zero, List.getElem_cons_succ]
  try simp only [Nat.mul_one, Nat.zero_add, Nat.add_sub_cancel_left]
  refine plan_q rfl rfl (qr_b2s (Sl.of_arr8 (hH.blk 3 rfl) (by omega) (by omega)) rfl Try.underlying27 Try.underlying5 Try.underlying9) ?_
  try simp only [eval_tmp, eval_const, put_some, put_none, List.getD_cons_zero, List.getD_cons_succ, List.set_cons_zero, List.set_cons_succ, Nat.zero_add, Nat.add_zero, Nat.mul_one, Nat.zero_mul, List.getElem_toArray, List.getElem_cons_zero, List.getElem_cons_succ]
  refine plan_q rfl rfl (qr_b2s (Sl.of_arr8 (hH.blk 0 rfl) (by omega) (by omega)) rfl Try.underlying27 Try.underlying5 Try.underlying9) ?_
  try simp only [eval_tmp, eval_const, put_some, put_none, List.getD_cons_zero, List.getD_cons_succ, List.set_cons_zero, List.set_cons_succ, Nat.zero_add, Nat.add_zero, Nat.mul_one, Nat.zero_mul, List.getElem_toArray, List.getElem_cons_zero, List.getElem_cons_succ]
  refine plan_q rfl rfl (qr_b2s (Sl.of_arr8 (hH.blk 1 rfl) (by omega) (by omega)) rfl Try.underlying27 Try.underlying5 Try.underlying9) ?_
  try simp only [eval_tmp, eval_const, put_some, put_none, List.getD_cons_zero, List.getD_cons_succ, List.set_cons_zero, List.set_cons_succ, Nat.zero_add, Nat.add_zero, Nat.mul_one, Nat.zero_mul, List.getElem_toArray, List.getElem_cons_zero, List.getElem_cons_succ]
  refine plan_callx rfl rfl hH cf18 (fun w' hH => ready_calls _ (fun i => ((List.range 16).map fun i => f i).getD i 0) rfl w' (by simp)) rfl (fun _ _ _ h => h.choose_spec.2.1) ?_
  clear hH
  intro w25 v26 w27 hH hp28
  obtain ⟨b29, rfl, hg, hfr, hbk⟩ := hp28
  replace hH := hH.callnew hg hbk hfr
  clear hg hfr hbk
  try simp only [eval_tmp, eval_const, put_some, put_none, List.getD_cons_zero, List.getD_cons_succ, List.set_cons_zero, List.set_cons_succ, Nat.zero_add, Nat.add_zero, Nat.mul_one, Nat.zero_mul, List.getElem_toArray, List.getElem_cons_zero, List.getElem_cons_succ, List.cons_append, List.nil_append, Value.cells, arr8_set, arr32_set, arr64_set, List.setIfInBounds_toArray] at hH ⊢
  try simp only [eval_tmp, eval_const, put_some, put_none, List.getD_cons_zero, List.getD_cons_succ, List.set_cons_zero, List.set_cons_succ, Nat.zero_add, Nat.add_zero, Nat.mul_one, Nat.zero_mul, List.getElem_toArray, List.getElem_cons_zero, List.getElem_cons_succ]
  refine plan_q rfl rfl (qr_call cf19 (fun w' hw => refblock_calls _ (fun i => ((List.range 16).map fun i => f i).getD i 0) _ (fun i => ((List.range 16).map fun i => g i).getD i 0) (fun i hi => rfl) (by simp [ByteArray.size]) w' (hw.nil_blk (hH.blk 4 rfl))) rfl) ?_
  try simp only [eval_tmp, eval_const, put_some, put_none, List.getD_cons_zero, List.getD_cons_succ, List.set_cons_zero, List.set_cons_succ, Nat.zero_add, Nat.add_zero, Nat.mul_one, Nat.zero_mul, List.getElem_toArray, List.getElem_cons_zero, List.getElem_cons_succ]
  refine plan_p rfl rfl (pr_bin rfl rfl bin_eql_s) ?_
  try simp only [eval_tmp, eval_const, put_some, put_none, List.getD_cons_zero, List.getD_cons_succ, List.set_cons_zero, List.set_cons_succ, Nat.zero_add, Nat.add_zero, Nat.mul_one, Nat.zero_mul, List.getElem_toArray, List.getElem_cons_zero, List.getElem_cons_succ]
  refine plan_p rfl rfl (pr_pick_t rfl) ?_
  try simp only [eval_tmp, eval_const, put_some, put_none, List.getD_cons_zero, List.getD_cons_succ, List.set_cons_zero, List.set_cons_succ, Nat.zero_add, Nat.add_zero, Nat.mul_one, Nat.zero_mul, List.getElem_toArray, List.getElem_cons_zero, List.getElem_cons_succ]
  refine plan_p rfl rfl pr_assign ?_
  try simp only [eval_tmp, eval_const, put_some, put_none, List.getD_cons_zero, List.getD_cons_succ, List.set_cons_zero, List.set_cons_succ, Nat.zero_add, Nat.add_zero, Nat.mul_one, Nat.zero_mul, List.getElem_toArray, List.getElem_cons_zero, List.getElem_cons_succ]
  refine plan_nil hH ?_
  clear hH
  intro w30 hH
  refine hK24 _ _ ?_
  try clear hK24 K24
  refine wp_ret ?_
  try simp only [Exit.then, Exit.inBlock, ↓reduceIte, Nat.reduceEqDiff]
  refine BP.ret1 rfl rfl ?_
  exact ⟨congrArg BV (beq_self_eq_true _), hH.chg⟩

end Go.Proofs.Ytjbohfonjalfnaa
