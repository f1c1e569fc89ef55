/- The walk of the law AesStream, for places below 0 and others. No conditions but the cases. -/
import Derived.Test.YtjbohfonjalfnaaAes9
import Derived.Test.YtjbohfonjalfnaaFrame
set_option linter.unusedSimpArgs false
set_option linter.unusedVariables false
set_option maxRecDepth 100000
set_option maxHeartbeats 4000000
namespace Go.Proofs.Ytjbohfonjalfnaa
open Go

theorem stream_below (f g : Nat → UInt8) (a : Int) (sv : Value) (l : List UInt8) (w : World) (hb : Sl w sv l) (ha : a < 0) :
    Ret Try.prog 6 #[.agg (flowC f g a sv)] w fun v w' => v = BV true ∧ Chg [] w w' := by
  refine Ret.enter Try.func6 rfl ?_
  simp only [Try.ntmps6, List.size_toArray, List.length_cons, List.length_nil, Nat.reduceAdd, Nat.reduceSub, frame_enter, List.replicate_succ, List.replicate_zero, List.nil_append, List.cons_append]
  have hH := Hp.start [] w
  refine wp_seq_k ?_
  intro K1 hK1
  refine wp_region_text [.x 0, .p 1] rfl ?_
  refine plan_box rfl rfl hH rfl ?_
  clear hH
  intro b2 w3 hH
  try simp only [n0, n1, n2, n3, List.getD_cons_zero, List.getD_cons_succ, List.set_cons_zero, List.set_cons_succ, Nat.zero_add, Nat.add_zero, Nat.mul_one, Nat.zero_mul, m2, m3, m4, m5, m6, m7, Value.cells, arr8_set, arr32_set, arr64_set] at hH ⊢
  refine plan_p rfl rfl pr_assign ?_
  try simp only [n0, n1, n2, n3, List.getD_cons_zero, List.getD_cons_succ, List.set_cons_zero, List.set_cons_succ, Nat.zero_add, Nat.add_zero, Nat.mul_one, Nat.zero_mul, m2, m3, m4]
  refine plan_nil hH ?_
  clear hH
  intro w4 hH
  refine hK1 _ _ ?_
  try clear hK1 K1
  refine wp_seq_k ?_
  intro K5 hK5
  refine wp_region_text [.p 0, .q 1, .p 2, .q 3, .p 4, .p 5, .p 6, .p 7] rfl ?_
  refine plan_p rfl rfl (pr_fieldAddr 33 rfl Try.underlying40 rfl rfl sz27) ?_
  try simp only [n0, n1, n2, n3, List.getD_cons_zero, List.getD_cons_succ, List.set_cons_zero, List.set_cons_succ, Nat.zero_add, Nat.add_zero, Nat.mul_one, Nat.zero_mul, m2, m3, m4]
  refine plan_q rfl rfl (qr_load1 rfl Try.underlying27 rfl ((hH.blk 0 rfl).cell flowC_bytes)) ?_
  try simp only [n0, n1, n2, n3, List.getD_cons_zero, List.getD_cons_succ, List.set_cons_zero, List.set_cons_succ, Nat.zero_add, Nat.add_zero, Nat.mul_one, Nat.zero_mul, m2, m3, m4]
  refine plan_p rfl rfl (pr_fieldAddr 33 rfl Try.underlying40 rfl rfl sz27) ?_
  try simp only [n0, n1, n2, n3, List.getD_cons_zero, List.getD_cons_succ, List.set_cons_zero, List.set_cons_succ, Nat.zero_add, Nat.add_zero, Nat.mul_one, Nat.zero_mul, m2, m3, m4]
  refine plan_q rfl rfl (qr_load1 rfl Try.underlying27 rfl ((hH.blk 0 rfl).cell flowC_bytes)) ?_
  try simp only [n0, n1, n2, n3, List.getD_cons_zero, List.getD_cons_succ, List.set_cons_zero, List.set_cons_succ, Nat.zero_add, Nat.add_zero, Nat.mul_one, Nat.zero_mul, m2, m3, m4]
  refine plan_p rfl rfl (pr_len_Sl (hb.chg hH.chg) rfl Try.underlying27) ?_
  try simp only [n0, n1, n2, n3, List.getD_cons_zero, List.getD_cons_succ, List.set_cons_zero, List.set_cons_succ, Nat.zero_add, Nat.add_zero, Nat.mul_one, Nat.zero_mul, m2, m3, m4]
  refine plan_p rfl rfl (by first | exact pr_min_n (n := 200) rfl rfl | exact pr_min rfl rfl) ?_
  try simp only [n0, n1, n2, n3, List.getD_cons_zero, List.getD_cons_succ, List.set_cons_zero, List.set_cons_succ, Nat.zero_add, Nat.add_zero, Nat.mul_one, Nat.zero_mul, m2, m3, m4]
  refine plan_p rfl rfl (pr_slice_Sl_h (hb.chg hH.chg) rfl rfl Try.underlying27 sz5 (by omega)) ?_
  try simp only [n0, n1, n2, n3, List.getD_cons_zero, List.getD_cons_succ, List.set_cons_zero, List.set_cons_succ, Nat.zero_add, Nat.add_zero, Nat.mul_one, Nat.zero_mul, m2, m3, m4]
  refine plan_p rfl rfl pr_assign ?_
  try simp only [n0, n1, n2, n3, List.getD_cons_zero, List.getD_cons_succ, List.set_cons_zero, List.set_cons_succ, Nat.zero_add, Nat.add_zero, Nat.mul_one, Nat.zero_mul, m2, m3, m4]
  refine plan_nil hH ?_
  clear hH
  intro w6 hH
  refine hK5 _ _ ?_
  try clear hK5 K5
  refine wp_seq_k ?_
  intro K7 hK7
  refine wp_region_text [.p 0, .p 1, .x 2, .p 3, .p 4, .p 5, .p 6, .p 7] rfl ?_
  refine plan_p rfl rfl (pr_fieldAddr 0 rfl Try.underlying40 rfl rfl sz22) ?_
  try simp only [n0, n1, n2, n3, List.getD_cons_zero, List.getD_cons_succ, List.set_cons_zero, List.set_cons_succ, Nat.zero_add, Nat.add_zero, Nat.mul_one, Nat.zero_mul, m2, m3, m4]
  refine plan_p rfl rfl (pr_slice_arr_all rfl Try.underlying22 sz5) ?_
  try simp only [n0, n1, n2, n3, List.getD_cons_zero, List.getD_cons_succ, List.set_cons_zero, List.set_cons_succ, Nat.zero_add, Nat.add_zero, Nat.mul_one, Nat.zero_mul, m2, m3, m4]
  try simp only [Nat.mul_one, Nat.zero_add, Nat.add_sub_cancel_left]
  refine plan_callx rfl rfl hH cf15 (fun w' hH => new_calls _ _ w' (flow_key (hH.blk 0 rfl)) (by simp)) rfl (fun _ _ _ h => h.choose_spec.2.1) ?_
  clear hH
  intro w8 v9 w10 hH hp11
  obtain ⟨b12, rfl, hg, hfr, hbk⟩ := hp11
  replace hH := hH.callnew hg hbk hfr
  clear hg hfr hbk
  try simp only [n0, n1, n2, n3, List.getD_cons_zero, List.getD_cons_succ, List.set_cons_zero, List.set_cons_succ, Nat.zero_add, Nat.add_zero, Nat.mul_one, Nat.zero_mul, m2, m3, m4, m5, m6, m7, Value.cells, arr8_set, arr32_set, arr64_set] at hH ⊢
  try simp only [n0, n1, n2, n3, List.getD_cons_zero, List.getD_cons_succ, List.set_cons_zero, List.set_cons_succ, Nat.zero_add, Nat.add_zero, Nat.mul_one, Nat.zero_mul, m2, m3, m4]
  refine plan_p rfl rfl pr_move ?_
  try simp only [n0, n1, n2, n3, List.getD_cons_zero, List.getD_cons_succ, List.set_cons_zero, List.set_cons_succ, Nat.zero_add, Nat.add_zero, Nat.mul_one, Nat.zero_mul, m2, m3, m4]
  refine plan_p rfl rfl (pr_extract rfl rfl) ?_
  try simp only [n0, n1, n2, n3, List.getD_cons_zero, List.getD_cons_succ, List.set_cons_zero, List.set_cons_succ, Nat.zero_add, Nat.add_zero, Nat.mul_one, Nat.zero_mul, m2, m3, m4]
  refine plan_p rfl rfl (pr_extract rfl rfl) ?_
  try simp only [n0, n1, n2, n3, List.getD_cons_zero, List.getD_cons_succ, List.set_cons_zero, List.set_cons_succ, Nat.zero_add, Nat.add_zero, Nat.mul_one, Nat.zero_mul, m2, m3, m4]
  refine plan_p rfl rfl pr_assign ?_
  try simp only [n0, n1, n2, n3, List.getD_cons_zero, List.getD_cons_succ, List.set_cons_zero, List.set_cons_succ, Nat.zero_add, Nat.add_zero, Nat.mul_one, Nat.zero_mul, m2, m3, m4]
  refine plan_p rfl rfl pr_assign ?_
  try simp only [n0, n1, n2, n3, List.getD_cons_zero, List.getD_cons_succ, List.set_cons_zero, List.set_cons_succ, Nat.zero_add, Nat.add_zero, Nat.mul_one, Nat.zero_mul, m2, m3, m4]
  refine plan_nil hH ?_
  clear hH
  intro w13 hH
  refine hK7 _ _ ?_
  try clear hK7 K7
  refine wp_seq_k ?_
  intro K14 hK14
  refine wp_seq_k ?_
  intro K15 hK15
  refine wp_region_text [.q 0, .p 1, .p 2, .p 3, .p 4, .p 5] rfl ?_
  refine plan_q rfl rfl (qr_call cf16 (fun w' hw => turns_calls w') rfl) ?_
  try simp only [n0, n1, n2, n3, List.getD_cons_zero, List.getD_cons_succ, List.set_cons_zero, List.set_cons_succ, Nat.zero_add, Nat.add_zero, Nat.mul_one, Nat.zero_mul, m2, m3, m4]
  refine plan_p rfl rfl (pr_not rfl) ?_
  try simp only [n0, n1, n2, n3, List.getD_cons_zero, List.getD_cons_succ, List.set_cons_zero, List.set_cons_succ, Nat.zero_add, Nat.add_zero, Nat.mul_one, Nat.zero_mul, m2, m3, m4]
  refine plan_p (v := BV false) rfl rfl (pr_move_v rfl) ?_
  try simp only [n0, n1, n2, n3, List.getD_cons_zero, List.getD_cons_succ, List.set_cons_zero, List.set_cons_succ, Nat.zero_add, Nat.add_zero, Nat.mul_one, Nat.zero_mul, m2, m3, m4]
  refine plan_p rfl rfl pr_move ?_
  try simp only [n0, n1, n2, n3, List.getD_cons_zero, List.getD_cons_succ, List.set_cons_zero, List.set_cons_succ, Nat.zero_add, Nat.add_zero, Nat.mul_one, Nat.zero_mul, m2, m3, m4]
  refine plan_p rfl rfl (pr_bin rfl rfl (by first | exact bin_neq_n (n := 0)  | exact bin_neq_i)) ?_
  try simp only [n0, n1, n2, n3, List.getD_cons_zero, List.getD_cons_succ, List.set_cons_zero, List.set_cons_succ, Nat.zero_add, Nat.add_zero, Nat.mul_one, Nat.zero_mul, m2, m3, m4]
  refine plan_p rfl rfl (pr_pick_f rfl) ?_
  try simp only [n0, n1, n2, n3, List.getD_cons_zero, List.getD_cons_succ, List.set_cons_zero, List.set_cons_succ, Nat.zero_add, Nat.add_zero, Nat.mul_one, Nat.zero_mul, m2, m3, m4]
  refine plan_nil hH ?_
  clear hH
  intro w16 hH
  refine hK15 _ _ ?_
  try clear hK15 K15
  refine wp_cond_false rfl ?_
  refine wp_skip ?_
  refine hK14 _ _ ?_
  try clear hK14 K14
  refine wp_seq_k ?_
  intro K17 hK17
  refine wp_seq_k ?_
  intro K18 hK18
  refine wp_region_text [.p 0, .q 1, .p 2] rfl ?_
  refine plan_p rfl rfl (pr_fieldAddr 32 rfl Try.underlying40 rfl rfl sz3) ?_
  try simp only [n0, n1, n2, n3, List.getD_cons_zero, List.getD_cons_succ, List.set_cons_zero, List.set_cons_succ, Nat.zero_add, Nat.add_zero, Nat.mul_one, Nat.zero_mul, m2, m3, m4]
  refine plan_q rfl rfl (qr_load1 rfl Try.underlying3 rfl ((hH.blk 0 rfl).cell flowC_at)) ?_
  try simp only [n0, n1, n2, n3, List.getD_cons_zero, List.getD_cons_succ, List.set_cons_zero, List.set_cons_succ, Nat.zero_add, Nat.add_zero, Nat.mul_one, Nat.zero_mul, m2, m3, m4]
  refine plan_p rfl rfl (pr_bin rfl rfl (by first | exact bin_lss_n (n := 0)  | exact bin_lss_i)) ?_
  try simp only [n0, n1, n2, n3, List.getD_cons_zero, List.getD_cons_succ, List.set_cons_zero, List.set_cons_succ, Nat.zero_add, Nat.add_zero, Nat.mul_one, Nat.zero_mul, m2, m3, m4]
  refine plan_nil hH ?_
  clear hH
  intro w19 hH
  refine hK18 _ _ ?_
  try clear hK18 K18
  refine wp_cond_true (by show BV _ = _; exact congrArg BV (decide_eq_true ha)) ?_
  refine wp_seq_k ?_
  intro K20 hK20
  refine wp_region_plan [.p 0, .p 1, .p 2, .p 3, .p 5, .q 4, .q 6, .p 7, .p 8, .p 9, .p 10, .p 11] (by kernel_rfl) (by kernel_rfl) (by kernel_rfl) (by kernel_rfl) (fun _ _ _ _ _ h => by first | exact h | exact BP.panic _ _ _ _ _ h) ?_
  refine plan_p rfl rfl pr_move ?_
  try simp only [n0, n1, n2, n3, List.getD_cons_zero, List.getD_cons_succ, List.set_cons_zero, List.set_cons_succ, Nat.zero_add, Nat.add_zero, Nat.mul_one, Nat.zero_mul, m2, m3, m4]
  refine plan_p rfl rfl (pr_fieldAddr 16 rfl Try.underlying40 rfl rfl sz22) ?_
  try simp only [n0, n1, n2, n3, List.getD_cons_zero, List.getD_cons_succ, List.set_cons_zero, List.set_cons_succ, Nat.zero_add, Nat.add_zero, Nat.mul_one, Nat.zero_mul, m2, m3, m4]
  refine plan_p rfl rfl (pr_slice_arr_all rfl Try.underlying22 sz5) ?_
  try simp only [n0, n1, n2, n3, List.getD_cons_zero, List.getD_cons_succ, List.set_cons_zero, List.set_cons_succ, Nat.zero_add, Nat.add_zero, Nat.mul_one, Nat.zero_mul, m2, m3, m4]
  try simp only [Nat.mul_one, Nat.zero_add, Nat.add_sub_cancel_left]
  refine plan_p rfl rfl (pr_fieldAddr 32 rfl Try.underlying40 rfl rfl sz3) ?_
  try simp only [n0, n1, n2, n3, List.getD_cons_zero, List.getD_cons_succ, List.set_cons_zero, List.set_cons_succ, Nat.zero_add, Nat.add_zero, Nat.mul_one, Nat.zero_mul, m2, m3, m4]
  refine plan_p rfl rfl pr_move ?_
  try simp only [n0, n1, n2, n3, List.getD_cons_zero, List.getD_cons_succ, List.set_cons_zero, List.set_cons_succ, Nat.zero_add, Nat.add_zero, Nat.mul_one, Nat.zero_mul, m2, m3, m4]
  refine plan_q rfl rfl (qr_load1 rfl Try.underlying3 rfl ((hH.blk 0 rfl).cell flowC_at)) ?_
  try simp only [n0, n1, n2, n3, List.getD_cons_zero, List.getD_cons_succ, List.set_cons_zero, List.set_cons_succ, Nat.zero_add, Nat.add_zero, Nat.mul_one, Nat.zero_mul, m2, m3, m4]
  refine plan_q rfl rfl (qr_call cf21 (fun w' hw => stream_neg _ _ _ _ _ w' (flow_ctr (hw.nil_blk (hH.blk 0 rfl))) (by simp) ha) rfl) ?_
  try simp only [n0, n1, n2, n3, List.getD_cons_zero, List.getD_cons_succ, List.set_cons_zero, List.set_cons_succ, Nat.zero_add, Nat.add_zero, Nat.mul_one, Nat.zero_mul, m2, m3, m4]
  refine plan_p rfl rfl pr_move ?_
  try simp only [n0, n1, n2, n3, List.getD_cons_zero, List.getD_cons_succ, List.set_cons_zero, List.set_cons_succ, Nat.zero_add, Nat.add_zero, Nat.mul_one, Nat.zero_mul, m2, m3, m4]
  refine plan_p rfl rfl (pr_extract rfl rfl) ?_
  try simp only [n0, n1, n2, n3, List.getD_cons_zero, List.getD_cons_succ, List.set_cons_zero, List.set_cons_succ, Nat.zero_add, Nat.add_zero, Nat.mul_one, Nat.zero_mul, m2, m3, m4]
  refine plan_p rfl rfl (pr_extract rfl rfl) ?_
  try simp only [n0, n1, n2, n3, List.getD_cons_zero, List.getD_cons_succ, List.set_cons_zero, List.set_cons_succ, Nat.zero_add, Nat.add_zero, Nat.mul_one, Nat.zero_mul, m2, m3, m4]
  refine plan_p rfl rfl pr_assign ?_
  try simp only [n0, n1, n2, n3, List.getD_cons_zero, List.getD_cons_succ, List.set_cons_zero, List.set_cons_succ, Nat.zero_add, Nat.add_zero, Nat.mul_one, Nat.zero_mul, m2, m3, m4]
  refine plan_p rfl rfl pr_assign ?_
  try simp only [n0, n1, n2, n3, List.getD_cons_zero, List.getD_cons_succ, List.set_cons_zero, List.set_cons_succ, Nat.zero_add, Nat.add_zero, Nat.mul_one, Nat.zero_mul, m2, m3, m4]
  refine plan_nil hH ?_
  clear hH
  intro w21 hH
  refine hK20 _ _ ?_
  try clear hK20 K20
  refine wp_seq_k ?_
  intro K22 hK22
  refine wp_region_text [.p 0, .p 1, .p 2, .p 3, .p 4, .p 5, .p 6, .p 7] rfl ?_
  refine plan_p rfl rfl pr_move ?_
  try simp only [n0, n1, n2, n3, List.getD_cons_zero, List.getD_cons_succ, List.set_cons_zero, List.set_cons_succ, Nat.zero_add, Nat.add_zero, Nat.mul_one, Nat.zero_mul, m2, m3, m4]
  refine plan_p rfl rfl (pr_bin rfl rfl (by first | exact bin_eql_n (n := 1)  | exact bin_eql_i)) ?_
  try simp only [n0, n1, n2, n3, List.getD_cons_zero, List.getD_cons_succ, List.set_cons_zero, List.set_cons_succ, Nat.zero_add, Nat.add_zero, Nat.mul_one, Nat.zero_mul, m2, m3, m4]
  refine plan_p (v := BV true) rfl rfl (pr_move_v rfl) ?_
  try simp only [n0, n1, n2, n3, List.getD_cons_zero, List.getD_cons_succ, List.set_cons_zero, List.set_cons_succ, Nat.zero_add, Nat.add_zero, Nat.mul_one, Nat.zero_mul, m2, m3, m4]
  refine plan_p rfl rfl pr_move ?_
  try simp only [n0, n1, n2, n3, List.getD_cons_zero, List.getD_cons_succ, List.set_cons_zero, List.set_cons_succ, Nat.zero_add, Nat.add_zero, Nat.mul_one, Nat.zero_mul, m2, m3, m4]
  refine plan_p rfl rfl (pr_len_sl rfl Try.underlying27) ?_
  try simp only [n0, n1, n2, n3, List.getD_cons_zero, List.getD_cons_succ, List.set_cons_zero, List.set_cons_succ, Nat.zero_add, Nat.add_zero, Nat.mul_one, Nat.zero_mul, m2, m3, m4]
  refine plan_p rfl rfl (pr_bin rfl rfl (by first | exact bin_eql_n (n := 0)  | exact bin_eql_i)) ?_
  try simp only [n0, n1, n2, n3, List.getD_cons_zero, List.getD_cons_succ, List.set_cons_zero, List.set_cons_succ, Nat.zero_add, Nat.add_zero, Nat.mul_one, Nat.zero_mul, m2, m3, m4]
  refine plan_p rfl rfl (pr_pick_t rfl) ?_
  try simp only [n0, n1, n2, n3, List.getD_cons_zero, List.getD_cons_succ, List.set_cons_zero, List.set_cons_succ, Nat.zero_add, Nat.add_zero, Nat.mul_one, Nat.zero_mul, m2, m3, m4]
  refine plan_p rfl rfl pr_assign ?_
  try simp only [n0, n1, n2, n3, List.getD_cons_zero, List.getD_cons_succ, List.set_cons_zero, List.set_cons_succ, Nat.zero_add, Nat.add_zero, Nat.mul_one, Nat.zero_mul, m2, m3, m4]
  refine plan_nil hH ?_
  clear hH
  intro w23 hH
  refine hK22 _ _ ?_
  try clear hK22 K22
  refine wp_ret ?_
  try simp only [Exit.then, Exit.inBlock, ↓reduceIte, Nat.reduceEqDiff]
  refine BP.ret1 rfl rfl ?_
  exact ⟨rfl, hH.chg⟩

theorem stream_above (f g : Nat → UInt8) (a : Nat) (sv : Value) (l : List UInt8) (w : World) (hb : Sl w sv l) (ha : (a : Int) ≤ 9223372036854775807) :
    Ret Try.prog 6 #[.agg (flowC f g (a : Nat) sv)] w fun v w' => v = BV true ∧ Chg [] w w' := by
  refine Ret.enter Try.func6 rfl ?_
  simp only [Try.ntmps6, List.size_toArray, List.length_cons, List.length_nil, Nat.reduceAdd, Nat.reduceSub, frame_enter, List.replicate_succ, List.replicate_zero, List.nil_append, List.cons_append]
  have hH := Hp.start [] w
  refine wp_seq_k ?_
  intro K1 hK1
  refine wp_region_text [.x 0, .p 1] rfl ?_
  refine plan_box rfl rfl hH rfl ?_
  clear hH
  intro b2 w3 hH
  try simp only [n0, n1, n2, n3, List.getD_cons_zero, List.getD_cons_succ, List.set_cons_zero, List.set_cons_succ, Nat.zero_add, Nat.add_zero, Nat.mul_one, Nat.zero_mul, m2, m3, m4, m5, m6, m7, Value.cells, arr8_set, arr32_set, arr64_set] at hH ⊢
  refine plan_p rfl rfl pr_assign ?_
  try simp only [n0, n1, n2, n3, List.getD_cons_zero, List.getD_cons_succ, List.set_cons_zero, List.set_cons_succ, Nat.zero_add, Nat.add_zero, Nat.mul_one, Nat.zero_mul, m2, m3, m4]
  refine plan_nil hH ?_
  clear hH
  intro w4 hH
  refine hK1 _ _ ?_
  try clear hK1 K1
  refine wp_seq_k ?_
  intro K5 hK5
  refine wp_region_text [.p 0, .q 1, .p 2, .q 3, .p 4, .p 5, .p 6, .p 7] rfl ?_
  refine plan_p rfl rfl (pr_fieldAddr 33 rfl Try.underlying40 rfl rfl sz27) ?_
  try simp only [n0, n1, n2, n3, List.getD_cons_zero, List.getD_cons_succ, List.set_cons_zero, List.set_cons_succ, Nat.zero_add, Nat.add_zero, Nat.mul_one, Nat.zero_mul, m2, m3, m4]
  refine plan_q rfl rfl (qr_load1 rfl Try.underlying27 rfl ((hH.blk 0 rfl).cell flowC_bytes)) ?_
  try simp only [n0, n1, n2, n3, List.getD_cons_zero, List.getD_cons_succ, List.set_cons_zero, List.set_cons_succ, Nat.zero_add, Nat.add_zero, Nat.mul_one, Nat.zero_mul, m2, m3, m4]
  refine plan_p rfl rfl (pr_fieldAddr 33 rfl Try.underlying40 rfl rfl sz27) ?_
  try simp only [n0, n1, n2, n3, List.getD_cons_zero, List.getD_cons_succ, List.set_cons_zero, List.set_cons_succ, Nat.zero_add, Nat.add_zero, Nat.mul_one, Nat.zero_mul, m2, m3, m4]
  refine plan_q rfl rfl (qr_load1 rfl Try.underlying27 rfl ((hH.blk 0 rfl).cell flowC_bytes)) ?_
  try simp only [n0, n1, n2, n3, List.getD_cons_zero, List.getD_cons_succ, List.set_cons_zero, List.set_cons_succ, Nat.zero_add, Nat.add_zero, Nat.mul_one, Nat.zero_mul, m2, m3, m4]
  refine plan_p rfl rfl (pr_len_Sl (hb.chg hH.chg) rfl Try.underlying27) ?_
  try simp only [n0, n1, n2, n3, List.getD_cons_zero, List.getD_cons_succ, List.set_cons_zero, List.set_cons_succ, Nat.zero_add, Nat.add_zero, Nat.mul_one, Nat.zero_mul, m2, m3, m4]
  refine plan_p rfl rfl (by first | exact pr_min_n (n := 200) rfl rfl | exact pr_min rfl rfl) ?_
  try simp only [n0, n1, n2, n3, List.getD_cons_zero, List.getD_cons_succ, List.set_cons_zero, List.set_cons_succ, Nat.zero_add, Nat.add_zero, Nat.mul_one, Nat.zero_mul, m2, m3, m4]
  refine plan_p rfl rfl (pr_slice_Sl_h (hb.chg hH.chg) rfl rfl Try.underlying27 sz5 (by omega)) ?_
  try simp only [n0, n1, n2, n3, List.getD_cons_zero, List.getD_cons_succ, List.set_cons_zero, List.set_cons_succ, Nat.zero_add, Nat.add_zero, Nat.mul_one, Nat.zero_mul, m2, m3, m4]
  refine plan_p rfl rfl pr_assign ?_
  try simp only [n0, n1, n2, n3, List.getD_cons_zero, List.getD_cons_succ, List.set_cons_zero, List.set_cons_succ, Nat.zero_add, Nat.add_zero, Nat.mul_one, Nat.zero_mul, m2, m3, m4]
  refine plan_nil hH ?_
  clear hH
  intro w6 hH
  refine hK5 _ _ ?_
  try clear hK5 K5
  refine wp_seq_k ?_
  intro K7 hK7
  refine wp_region_text [.p 0, .p 1, .x 2, .p 3, .p 4, .p 5, .p 6, .p 7] rfl ?_
  refine plan_p rfl rfl (pr_fieldAddr 0 rfl Try.underlying40 rfl rfl sz22) ?_
  try simp only [n0, n1, n2, n3, List.getD_cons_zero, List.getD_cons_succ, List.set_cons_zero, List.set_cons_succ, Nat.zero_add, Nat.add_zero, Nat.mul_one, Nat.zero_mul, m2, m3, m4]
  refine plan_p rfl rfl (pr_slice_arr_all rfl Try.underlying22 sz5) ?_
  try simp only [n0, n1, n2, n3, List.getD_cons_zero, List.getD_cons_succ, List.set_cons_zero, List.set_cons_succ, Nat.zero_add, Nat.add_zero, Nat.mul_one, Nat.zero_mul, m2, m3, m4]
  try simp only [Nat.mul_one, Nat.zero_add, Nat.add_sub_cancel_left]
  refine plan_callx rfl rfl hH cf15 (fun w' hH => new_calls _ _ w' (flow_key (hH.blk 0 rfl)) (by simp)) rfl (fun _ _ _ h => h.choose_spec.2.1) ?_
  clear hH
  intro w8 v9 w10 hH hp11
  obtain ⟨b12, rfl, hg, hfr, hbk⟩ := hp11
  replace hH := hH.callnew hg hbk hfr
  clear hg hfr hbk
  try simp only [n0, n1, n2, n3, List.getD_cons_zero, List.getD_cons_succ, List.set_cons_zero, List.set_cons_succ, Nat.zero_add, Nat.add_zero, Nat.mul_one, Nat.zero_mul, m2, m3, m4, m5, m6, m7, Value.cells, arr8_set, arr32_set, arr64_set] at hH ⊢
  try simp only [n0, n1, n2, n3, List.getD_cons_zero, List.getD_cons_succ, List.set_cons_zero, List.set_cons_succ, Nat.zero_add, Nat.add_zero, Nat.mul_one, Nat.zero_mul, m2, m3, m4]
  refine plan_p rfl rfl pr_move ?_
  try simp only [n0, n1, n2, n3, List.getD_cons_zero, List.getD_cons_succ, List.set_cons_zero, List.set_cons_succ, Nat.zero_add, Nat.add_zero, Nat.mul_one, Nat.zero_mul, m2, m3, m4]
  refine plan_p rfl rfl (pr_extract rfl rfl) ?_
  try simp only [n0, n1, n2, n3, List.getD_cons_zero, List.getD_cons_succ, List.set_cons_zero, List.set_cons_succ, Nat.zero_add, Nat.add_zero, Nat.mul_one, Nat.zero_mul, m2, m3, m4]
  refine plan_p rfl rfl (pr_extract rfl rfl) ?_
  try simp only [n0, n1, n2, n3, List.getD_cons_zero, List.getD_cons_succ, List.set_cons_zero, List.set_cons_succ, Nat.zero_add, Nat.add_zero, Nat.mul_one, Nat.zero_mul, m2, m3, m4]
  refine plan_p rfl rfl pr_assign ?_
  try simp only [n0, n1, n2, n3, List.getD_cons_zero, List.getD_cons_succ, List.set_cons_zero, List.set_cons_succ, Nat.zero_add, Nat.add_zero, Nat.mul_one, Nat.zero_mul, m2, m3, m4]
  refine plan_p rfl rfl pr_assign ?_
  try simp only [n0, n1, n2, n3, List.getD_cons_zero, List.getD_cons_succ, List.set_cons_zero, List.set_cons_succ, Nat.zero_add, Nat.add_zero, Nat.mul_one, Nat.zero_mul, m2, m3, m4]
  refine plan_nil hH ?_
  clear hH
  intro w13 hH
  refine hK7 _ _ ?_
  try clear hK7 K7
  refine wp_seq_k ?_
  intro K14 hK14
  refine wp_seq_k ?_
  intro K15 hK15
  refine wp_region_text [.q 0, .p 1, .p 2, .p 3, .p 4, .p 5] rfl ?_
  refine plan_q rfl rfl (qr_call cf16 (fun w' hw => turns_calls w') rfl) ?_
  try simp only [n0, n1, n2, n3, List.getD_cons_zero, List.getD_cons_succ, List.set_cons_zero, List.set_cons_succ, Nat.zero_add, Nat.add_zero, Nat.mul_one, Nat.zero_mul, m2, m3, m4]
  refine plan_p rfl rfl (pr_not rfl) ?_
  try simp only [n0, n1, n2, n3, List.getD_cons_zero, List.getD_cons_succ, List.set_cons_zero, List.set_cons_succ, Nat.zero_add, Nat.add_zero, Nat.mul_one, Nat.zero_mul, m2, m3, m4]
  refine plan_p (v := BV false) rfl rfl (pr_move_v rfl) ?_
  try simp only [n0, n1, n2, n3, List.getD_cons_zero, List.getD_cons_succ, List.set_cons_zero, List.set_cons_succ, Nat.zero_add, Nat.add_zero, Nat.mul_one, Nat.zero_mul, m2, m3, m4]
  refine plan_p rfl rfl pr_move ?_
  try simp only [n0, n1, n2, n3, List.getD_cons_zero, List.getD_cons_succ, List.set_cons_zero, List.set_cons_succ, Nat.zero_add, Nat.add_zero, Nat.mul_one, Nat.zero_mul, m2, m3, m4]
  refine plan_p rfl rfl (pr_bin rfl rfl (by first | exact bin_neq_n (n := 0)  | exact bin_neq_i)) ?_
  try simp only [n0, n1, n2, n3, List.getD_cons_zero, List.getD_cons_succ, List.set_cons_zero, List.set_cons_succ, Nat.zero_add, Nat.add_zero, Nat.mul_one, Nat.zero_mul, m2, m3, m4]
  refine plan_p rfl rfl (pr_pick_f rfl) ?_
  try simp only [n0, n1, n2, n3, List.getD_cons_zero, List.getD_cons_succ, List.set_cons_zero, List.set_cons_succ, Nat.zero_add, Nat.add_zero, Nat.mul_one, Nat.zero_mul, m2, m3, m4]
  refine plan_nil hH ?_
  clear hH
  intro w16 hH
  refine hK15 _ _ ?_
  try clear hK15 K15
  refine wp_cond_false rfl ?_
  refine wp_skip ?_
  refine hK14 _ _ ?_
  try clear hK14 K14
  refine wp_seq_k ?_
  intro K17 hK17
  refine wp_seq_k ?_
  intro K18 hK18
  refine wp_region_text [.p 0, .q 1, .p 2] rfl ?_
  refine plan_p rfl rfl (pr_fieldAddr 32 rfl Try.underlying40 rfl rfl sz3) ?_
  try simp only [n0, n1, n2, n3, List.getD_cons_zero, List.getD_cons_succ, List.set_cons_zero, List.set_cons_succ, Nat.zero_add, Nat.add_zero, Nat.mul_one, Nat.zero_mul, m2, m3, m4]
  refine plan_q rfl rfl (qr_load1 rfl Try.underlying3 rfl ((hH.blk 0 rfl).cell flowC_at)) ?_
  try simp only [n0, n1, n2, n3, List.getD_cons_zero, List.getD_cons_succ, List.set_cons_zero, List.set_cons_succ, Nat.zero_add, Nat.add_zero, Nat.mul_one, Nat.zero_mul, m2, m3, m4]
  refine plan_p rfl rfl (pr_bin rfl rfl (by first | exact bin_lss_n (n := 0)  | exact bin_lss_i)) ?_
  try simp only [n0, n1, n2, n3, List.getD_cons_zero, List.getD_cons_succ, List.set_cons_zero, List.set_cons_succ, Nat.zero_add, Nat.add_zero, Nat.mul_one, Nat.zero_mul, m2, m3, m4]
  refine plan_nil hH ?_
  clear hH
  intro w19 hH
  refine hK18 _ _ ?_
  try clear hK18 K18
  refine wp_cond_false (by show BV _ = _; exact congrArg BV (decide_eq_false (by omega))) ?_
  refine wp_skip ?_
  refine hK17 _ _ ?_
  try clear hK17 K17
  refine wp_seq_k ?_
  intro K20 hK20
  refine wp_region_text [.p 0, .q 1, .p 2, .p 3] rfl ?_
  refine plan_p rfl rfl (pr_fieldAddr 32 rfl Try.underlying40 rfl rfl sz3) ?_
  try simp only [n0, n1, n2, n3, List.getD_cons_zero, List.getD_cons_succ, List.set_cons_zero, List.set_cons_succ, Nat.zero_add, Nat.add_zero, Nat.mul_one, Nat.zero_mul, m2, m3, m4]
  refine plan_q rfl rfl (qr_load1 rfl Try.underlying3 rfl ((hH.blk 0 rfl).cell flowC_at)) ?_
  try simp only [n0, n1, n2, n3, List.getD_cons_zero, List.getD_cons_succ, List.set_cons_zero, List.set_cons_succ, Nat.zero_add, Nat.add_zero, Nat.mul_one, Nat.zero_mul, m2, m3, m4]
  refine plan_p rfl rfl (pr_bin rfl rfl (by first | exact bin_rem_n (n := 1099511627776) (by omega))) ?_
  try simp only [n0, n1, n2, n3, List.getD_cons_zero, List.getD_cons_succ, List.set_cons_zero, List.set_cons_succ, Nat.zero_add, Nat.add_zero, Nat.mul_one, Nat.zero_mul, m2, m3, m4]
  refine plan_p rfl rfl pr_assign ?_
  try simp only [n0, n1, n2, n3, List.getD_cons_zero, List.getD_cons_succ, List.set_cons_zero, List.set_cons_succ, Nat.zero_add, Nat.add_zero, Nat.mul_one, Nat.zero_mul, m2, m3, m4]
  refine plan_nil hH ?_
  clear hH
  intro w21 hH
  refine hK20 _ _ ?_
  try clear hK20 K20
  refine wp_seq_k ?_
  intro K22 hK22
  refine wp_region_text [.p 0, .p 1, .p 2, .p 3, .p 4, .x 5, .p 6, .p 7, .p 8, .p 9, .p 10] rfl ?_
  refine plan_p rfl rfl pr_move ?_
  try simp only [n0, n1, n2, n3, List.getD_cons_zero, List.getD_cons_succ, List.set_cons_zero, List.set_cons_succ, Nat.zero_add, Nat.add_zero, Nat.mul_one, Nat.zero_mul, m2, m3, m4]
  refine plan_p rfl rfl (pr_fieldAddr 16 rfl Try.underlying40 rfl rfl sz22) ?_
  try simp only [n0, n1, n2, n3, List.getD_cons_zero, List.getD_cons_succ, List.set_cons_zero, List.set_cons_succ, Nat.zero_add, Nat.add_zero, Nat.mul_one, Nat.zero_mul, m2, m3, m4]
  refine plan_p rfl rfl (pr_slice_arr_all rfl Try.underlying22 sz5) ?_
  try simp only [n0, n1, n2, n3, List.getD_cons_zero, List.getD_cons_succ, List.set_cons_zero, List.set_cons_succ, Nat.zero_add, Nat.add_zero, Nat.mul_one, Nat.zero_mul, m2, m3, m4]
  try simp only [Nat.mul_one, Nat.zero_add, Nat.add_sub_cancel_left]
  refine plan_p rfl rfl pr_move ?_
  try simp only [n0, n1, n2, n3, List.getD_cons_zero, List.getD_cons_succ, List.set_cons_zero, List.set_cons_succ, Nat.zero_add, Nat.add_zero, Nat.mul_one, Nat.zero_mul, m2, m3, m4]
  refine plan_p rfl rfl pr_move ?_
  try simp only [n0, n1, n2, n3, List.getD_cons_zero, List.getD_cons_succ, List.set_cons_zero, List.set_cons_succ, Nat.zero_add, Nat.add_zero, Nat.mul_one, Nat.zero_mul, m2, m3, m4]
  refine plan_callx rfl rfl hH cf21 (fun w' hH => stream_calls _ _ (fun i => ((List.range 16).map fun i => g i).getD i 0) _ _ _ _ _ w' (hH.blk 1 rfl) (flow_ctr (hH.blk 0 rfl)) (by simp) (fun i hi => rfl) (Sl.cuth (hb.chg hH.chg) (by omega)) (by omega) (by simp; omega)) rfl (fun _ _ _ h => by obtain ⟨_, _, _, _, hg, _⟩ := h; exact hg) ?_
  clear hH
  intro w23 v24 w25 hH hp26
  obtain ⟨o27, cap28, cs29, rfl, hg, hO30, hfr⟩ := hp26
  replace hH := hH.callown hg hfr
  clear hg hfr
  try simp only [n0, n1, n2, n3, List.getD_cons_zero, List.getD_cons_succ, List.set_cons_zero, List.set_cons_succ, Nat.zero_add, Nat.add_zero, Nat.mul_one, Nat.zero_mul, m2, m3, m4, m5, m6, m7, Value.cells, arr8_set, arr32_set, arr64_set] at hH ⊢
  try simp only [n0, n1, n2, n3, List.getD_cons_zero, List.getD_cons_succ, List.set_cons_zero, List.set_cons_succ, Nat.zero_add, Nat.add_zero, Nat.mul_one, Nat.zero_mul, m2, m3, m4]
  refine plan_p rfl rfl pr_move ?_
  try simp only [n0, n1, n2, n3, List.getD_cons_zero, List.getD_cons_succ, List.set_cons_zero, List.set_cons_succ, Nat.zero_add, Nat.add_zero, Nat.mul_one, Nat.zero_mul, m2, m3, m4]
  refine plan_p rfl rfl (pr_extract rfl rfl) ?_
  try simp only [n0, n1, n2, n3, List.getD_cons_zero, List.getD_cons_succ, List.set_cons_zero, List.set_cons_succ, Nat.zero_add, Nat.add_zero, Nat.mul_one, Nat.zero_mul, m2, m3, m4]
  refine plan_p rfl rfl (pr_extract rfl rfl) ?_
  try simp only [n0, n1, n2, n3, List.getD_cons_zero, List.getD_cons_succ, List.set_cons_zero, List.set_cons_succ, Nat.zero_add, Nat.add_zero, Nat.mul_one, Nat.zero_mul, m2, m3, m4]
  refine plan_p rfl rfl pr_assign ?_
  try simp only [n0, n1, n2, n3, List.getD_cons_zero, List.getD_cons_succ, List.set_cons_zero, List.set_cons_succ, Nat.zero_add, Nat.add_zero, Nat.mul_one, Nat.zero_mul, m2, m3, m4]
  refine plan_p rfl rfl pr_assign ?_
  try simp only [n0, n1, n2, n3, List.getD_cons_zero, List.getD_cons_succ, List.set_cons_zero, List.set_cons_succ, Nat.zero_add, Nat.add_zero, Nat.mul_one, Nat.zero_mul, m2, m3, m4]
  refine plan_nil hH ?_
  clear hH
  intro w31 hH
  refine hK22 _ _ ?_
  try clear hK22 K22
  refine wp_seq_k ?_
  intro K32 hK32
  refine wp_region_plan [.p 0, .p 1, .p 2, .p 3, .p 5, .p 6, .p 9, .p 10, .p 12, .p 13, .q 4, .q 7, .q 11, .q 14, .x 8, .q 15, .p 16, .p 17, .p 18] (by kernel_rfl) (by kernel_rfl) (by kernel_rfl) (by kernel_rfl) (fun _ _ _ _ _ h => by first | exact h | exact BP.panic _ _ _ _ _ h) ?_
  refine plan_p rfl rfl pr_move ?_
  try simp only [n0, n1, n2, n3, List.getD_cons_zero, List.getD_cons_succ, List.set_cons_zero, List.set_cons_succ, Nat.zero_add, Nat.add_zero, Nat.mul_one, Nat.zero_mul, m2, m3, m4]
  refine plan_p rfl rfl (pr_bin rfl rfl (by first | exact bin_eql_n (n := 0)  | exact bin_eql_i)) ?_
  try simp only [n0, n1, n2, n3, List.getD_cons_zero, List.getD_cons_succ, List.set_cons_zero, List.set_cons_succ, Nat.zero_add, Nat.add_zero, Nat.mul_one, Nat.zero_mul, m2, m3, m4]
  refine plan_p (v := BV true) rfl rfl (pr_move_v rfl) ?_
  try simp only [n0, n1, n2, n3, List.getD_cons_zero, List.getD_cons_succ, List.set_cons_zero, List.set_cons_succ, Nat.zero_add, Nat.add_zero, Nat.mul_one, Nat.zero_mul, m2, m3, m4]
  refine plan_p rfl rfl pr_move ?_
  try simp only [n0, n1, n2, n3, List.getD_cons_zero, List.getD_cons_succ, List.set_cons_zero, List.set_cons_succ, Nat.zero_add, Nat.add_zero, Nat.mul_one, Nat.zero_mul, m2, m3, m4]
  refine plan_p rfl rfl (pr_fieldAddr 0 rfl Try.underlying40 rfl rfl sz22) ?_
  try simp only [n0, n1, n2, n3, List.getD_cons_zero, List.getD_cons_succ, List.set_cons_zero, List.set_cons_succ, Nat.zero_add, Nat.add_zero, Nat.mul_one, Nat.zero_mul, m2, m3, m4]
  refine plan_p rfl rfl (pr_slice_arr_all rfl Try.underlying22 sz5) ?_
  try simp only [n0, n1, n2, n3, List.getD_cons_zero, List.getD_cons_succ, List.set_cons_zero, List.set_cons_succ, Nat.zero_add, Nat.add_zero, Nat.mul_one, Nat.zero_mul, m2, m3, m4]
  try simp only [Nat.mul_one, Nat.zero_add, Nat.add_sub_cancel_left]
  refine plan_p rfl rfl (pr_fieldAddr 16 rfl Try.underlying40 rfl rfl sz22) ?_
  try simp only [n0, n1, n2, n3, List.getD_cons_zero, List.getD_cons_succ, List.set_cons_zero, List.set_cons_succ, Nat.zero_add, Nat.add_zero, Nat.mul_one, Nat.zero_mul, m2, m3, m4]
  refine plan_p rfl rfl (pr_slice_arr_all rfl Try.underlying22 sz5) ?_
  try simp only [n0, n1, n2, n3, List.getD_cons_zero, List.getD_cons_succ, List.set_cons_zero, List.set_cons_succ, Nat.zero_add, Nat.add_zero, Nat.mul_one, Nat.zero_mul, m2, m3, m4]
  try simp only [Nat.mul_one, Nat.zero_add, Nat.add_sub_cancel_left]
  refine plan_p rfl rfl pr_move ?_
  try simp only [n0, n1, n2, n3, List.getD_cons_zero, List.getD_cons_succ, List.set_cons_zero, List.set_cons_succ, Nat.zero_add, Nat.add_zero, Nat.mul_one, Nat.zero_mul, m2, m3, m4]
  refine plan_p rfl rfl pr_move ?_
  try simp only [n0, n1, n2, n3, List.getD_cons_zero, List.getD_cons_succ, List.set_cons_zero, List.set_cons_succ, Nat.zero_add, Nat.add_zero, Nat.mul_one, Nat.zero_mul, m2, m3, m4]
  refine plan_q rfl rfl (qr_b2s (OwnC.sl hH 2 rfl hO30) rfl Try.underlying27 Try.underlying5 Try.underlying9) ?_
  try simp only [n0, n1, n2, n3, List.getD_cons_zero, List.getD_cons_succ, List.set_cons_zero, List.set_cons_succ, Nat.zero_add, Nat.add_zero, Nat.mul_one, Nat.zero_mul, m2, m3, m4]
  refine plan_q rfl rfl (qr_b2s (flow_key (hH.blk 0 rfl)) rfl Try.underlying27 Try.underlying5 Try.underlying9) ?_
  try simp only [n0, n1, n2, n3, List.getD_cons_zero, List.getD_cons_succ, List.set_cons_zero, List.set_cons_succ, Nat.zero_add, Nat.add_zero, Nat.mul_one, Nat.zero_mul, m2, m3, m4]
  refine plan_q rfl rfl (qr_b2s (flow_ctr (hH.blk 0 rfl)) rfl Try.underlying27 Try.underlying5 Try.underlying9) ?_
  try simp only [n0, n1, n2, n3, List.getD_cons_zero, List.getD_cons_succ, List.set_cons_zero, List.set_cons_succ, Nat.zero_add, Nat.add_zero, Nat.mul_one, Nat.zero_mul, m2, m3, m4]
  refine plan_q rfl rfl (qr_b2s (Sl.cuth (hb.chg hH.chg) (by omega)) rfl Try.underlying27 Try.underlying5 Try.underlying9) ?_
  try simp only [n0, n1, n2, n3, List.getD_cons_zero, List.getD_cons_succ, List.set_cons_zero, List.set_cons_succ, Nat.zero_add, Nat.add_zero, Nat.mul_one, Nat.zero_mul, m2, m3, m4]
  refine plan_callx rfl rfl hH cf18 (fun w' hH => ready_calls _ (fun i => ((List.range 16).map fun i => f i).getD i 0) rfl w' (by simp)) rfl (fun _ _ _ h => h.choose_spec.2.1) ?_
  clear hH
  intro w33 v34 w35 hH hp36
  obtain ⟨b37, rfl, hg, hfr, hbk⟩ := hp36
  replace hH := hH.callnew hg hbk hfr
  clear hg hfr hbk
  try simp only [n0, n1, n2, n3, List.getD_cons_zero, List.getD_cons_succ, List.set_cons_zero, List.set_cons_succ, Nat.zero_add, Nat.add_zero, Nat.mul_one, Nat.zero_mul, m2, m3, m4, m5, m6, m7, Value.cells, arr8_set, arr32_set, arr64_set] at hH ⊢
  try simp only [n0, n1, n2, n3, List.getD_cons_zero, List.getD_cons_succ, List.set_cons_zero, List.set_cons_succ, Nat.zero_add, Nat.add_zero, Nat.mul_one, Nat.zero_mul, m2, m3, m4]
  refine plan_q rfl rfl (qr_call cf22 (fun w' hw => refstream_calls _ (fun i => ((List.range 16).map fun i => f i).getD i 0) (fun i => ((List.range 16).map fun i => g i).getD i 0) _ _ _ w' (hw.nil_blk (hH.blk 3 rfl)) (by simp [ByteArray.size]) (fun i hi => rfl) (by simp [ByteArray.size]; omega) (by simp [ByteArray.size]; omega)) rfl) ?_
  try simp only [n0, n1, n2, n3, List.getD_cons_zero, List.getD_cons_succ, List.set_cons_zero, List.set_cons_succ, Nat.zero_add, Nat.add_zero, Nat.mul_one, Nat.zero_mul, m2, m3, m4]
  refine plan_p rfl rfl (pr_bin rfl rfl bin_eql_s) ?_
  try simp only [n0, n1, n2, n3, List.getD_cons_zero, List.getD_cons_succ, List.set_cons_zero, List.set_cons_succ, Nat.zero_add, Nat.add_zero, Nat.mul_one, Nat.zero_mul, m2, m3, m4]
  refine plan_p rfl rfl (pr_pick_t rfl) ?_
  try simp only [n0, n1, n2, n3, List.getD_cons_zero, List.getD_cons_succ, List.set_cons_zero, List.set_cons_succ, Nat.zero_add, Nat.add_zero, Nat.mul_one, Nat.zero_mul, m2, m3, m4]
  refine plan_p rfl rfl pr_assign ?_
  try simp only [n0, n1, n2, n3, List.getD_cons_zero, List.getD_cons_succ, List.set_cons_zero, List.set_cons_succ, Nat.zero_add, Nat.add_zero, Nat.mul_one, Nat.zero_mul, m2, m3, m4]
  refine plan_nil hH ?_
  clear hH
  intro w38 hH
  refine hK32 _ _ ?_
  try clear hK32 K32
  refine wp_ret ?_
  try simp only [Exit.then, Exit.inBlock, ↓reduceIte, Nat.reduceEqDiff]
  refine BP.ret1 rfl rfl ?_
  exact ⟨congrArg BV (beq_self_eq_true _), hH.chg⟩

end Go.Proofs.Ytjbohfonjalfnaa
