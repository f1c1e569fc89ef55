/- Walks of the law GcmSeal, case by case. No conditions but the cases. -/
import Derived.Test.YtjbohfonjalfnaaGcmL
import Derived.Test.YtjbohfonjalfnaaWide
set_option linter.unusedSimpArgs false
set_option linter.unusedVariables false
set_option maxRecDepth 100000
set_option maxHeartbeats 4000000
namespace Go.Proofs.Ytjbohfonjalfnaa
open Go
open List (getD_cons_zero getD_cons_succ set_cons_zero set_cons_succ)
open Nat (zero_add add_zero mul_one zero_mul)

theorem gcmseal_nonce (f : Nat → UInt8) (nv av bv : Value) (nl al bl : List UInt8) (w : World) (hn : Sl w nv nl) (ha : Sl w av al) (hb : Sl w bv bl) (hnl : nl.length ≤ reachBytes) (hl : nl.length ≠ 12) : Ret Try.prog 11 #[.agg (letterC f nv av bv)] w fun v w' => v = BV true ∧ Chg [] w w' := by
  refine Ret.enter Try.func11 rfl ?_
  simp only [Try.ntmps11, List.size_toArray, List.length_cons, List.length_nil, Nat.reduceAdd, Nat.reduceSub, frame_enter, List.replicate_succ, List.replicate_zero, List.nil_append, List.cons_append]
  have hH := Hp.start [] w
  refine wp_seq_k ?_
  intro K1 hK1
  refine wp_region_text [.x 0, .p 1] rfl ?_
  refine plan_box rfl rfl hH rfl ?_
  clear hH
  intro b2 w3 hH
  try simp only [n0, n1, n2, n3, getD_cons_zero, getD_cons_succ, set_cons_zero, set_cons_succ, zero_add, add_zero, mul_one, zero_mul, m2, m3, m4, m5, m6, m7, Value.cells, arr8_set, arr32_set, arr64_set, arrB_set] at hH ⊢
  refine plan_p rfl rfl pr_assign ?_
  try simp only [n0, n1, n2, n3, getD_cons_zero, getD_cons_succ, set_cons_zero, set_cons_succ, zero_add, add_zero, mul_one, zero_mul, m2, m3, m4]
  refine plan_nil hH ?_
  clear hH
  intro w4 hH
  refine hK1 _ _ ?_
  try clear hK1 K1
  refine wp_seq_k ?_
  intro K5 hK5
  refine wp_region_text [.p 0, .p 1, .x 2, .p 3, .p 4, .p 5, .p 6, .p 7] rfl ?_
  refine plan_p rfl rfl (pr_fieldAddr 0 rfl Try.underlying48 rfl rfl sz22) ?_
  try simp only [n0, n1, n2, n3, getD_cons_zero, getD_cons_succ, set_cons_zero, set_cons_succ, zero_add, add_zero, mul_one, zero_mul, m2, m3, m4]
  refine plan_p rfl rfl (pr_slice_arr_all rfl Try.underlying22 sz5) ?_
  try simp only [n0, n1, n2, n3, getD_cons_zero, getD_cons_succ, set_cons_zero, set_cons_succ, zero_add, add_zero, mul_one, zero_mul, m2, m3, m4]
  try simp only [Nat.mul_one, Nat.zero_add, Nat.add_sub_cancel_left]
  refine plan_callx rfl rfl hH cf23 (fun w' hH => gnew_calls _ _ w' (letter_key (hH.blk 0 rfl)) (by simp)) rfl (fun _ _ _ h => by obtain ⟨_, _, _, hg, _⟩ := h; exact hg) ?_
  clear hH
  intro w6 v7 w8 hH hp9
  obtain ⟨b10, b11, rfl, hg, hfc, hbc, hfx, hbx, hne⟩ := hp9
  replace hH := hH.callnew2 hg hbc hfc hbx hfx hne
  clear hg hfc hbc hfx hbx hne
  try simp only [n0, n1, n2, n3, getD_cons_zero, getD_cons_succ, set_cons_zero, set_cons_succ, zero_add, add_zero, mul_one, zero_mul, m2, m3, m4, m5, m6, m7, Value.cells, arr8_set, arr32_set, arr64_set, arrB_set] at hH ⊢
  try simp only [n0, n1, n2, n3, getD_cons_zero, getD_cons_succ, set_cons_zero, set_cons_succ, zero_add, add_zero, mul_one, zero_mul, m2, m3, m4]
  refine plan_p rfl rfl pr_move ?_
  try simp only [n0, n1, n2, n3, getD_cons_zero, getD_cons_succ, set_cons_zero, set_cons_succ, zero_add, add_zero, mul_one, zero_mul, m2, m3, m4]
  refine plan_p rfl rfl (pr_extract rfl rfl) ?_
  try simp only [n0, n1, n2, n3, getD_cons_zero, getD_cons_succ, set_cons_zero, set_cons_succ, zero_add, add_zero, mul_one, zero_mul, m2, m3, m4]
  refine plan_p rfl rfl (pr_extract rfl rfl) ?_
  try simp only [n0, n1, n2, n3, getD_cons_zero, getD_cons_succ, set_cons_zero, set_cons_succ, zero_add, add_zero, mul_one, zero_mul, m2, m3, m4]
  refine plan_p rfl rfl pr_assign ?_
  try simp only [n0, n1, n2, n3, getD_cons_zero, getD_cons_succ, set_cons_zero, set_cons_succ, zero_add, add_zero, mul_one, zero_mul, m2, m3, m4]
  refine plan_p rfl rfl pr_assign ?_
  try simp only [n0, n1, n2, n3, getD_cons_zero, getD_cons_succ, set_cons_zero, set_cons_succ, zero_add, add_zero, mul_one, zero_mul, m2, m3, m4]
  refine plan_nil hH ?_
  clear hH
  intro w12 hH
  refine hK5 _ _ ?_
  try clear hK5 K5
  refine wp_seq_k ?_
  intro K13 hK13
  refine wp_region_text [.q 0, .q 1, .p 2, .p 3, .p 4, .p 5, .p 6] rfl ?_
  refine plan_q rfl rfl (qr_call cf29 (fun w' hw => none4_calls w') rfl) ?_
  try simp only [n0, n1, n2, n3, getD_cons_zero, getD_cons_succ, set_cons_zero, set_cons_succ, zero_add, add_zero, mul_one, zero_mul, m2, m3, m4]
  refine plan_q rfl rfl (qr_call cf26 (fun w' hw => Seal_nil _ _ _ _ w' Sl.nil (by simp)) rfl) ?_
  try simp only [n0, n1, n2, n3, getD_cons_zero, getD_cons_succ, set_cons_zero, set_cons_succ, zero_add, add_zero, mul_one, zero_mul, m2, m3, m4]
  refine plan_p rfl rfl pr_move ?_
  try simp only [n0, n1, n2, n3, getD_cons_zero, getD_cons_succ, set_cons_zero, set_cons_succ, zero_add, add_zero, mul_one, zero_mul, m2, m3, m4]
  refine plan_p rfl rfl (pr_extract rfl rfl) ?_
  try simp only [n0, n1, n2, n3, getD_cons_zero, getD_cons_succ, set_cons_zero, set_cons_succ, zero_add, add_zero, mul_one, zero_mul, m2, m3, m4]
  refine plan_p rfl rfl (pr_extract rfl rfl) ?_
  try simp only [n0, n1, n2, n3, getD_cons_zero, getD_cons_succ, set_cons_zero, set_cons_succ, zero_add, add_zero, mul_one, zero_mul, m2, m3, m4]
  refine plan_p rfl rfl pr_assign ?_
  try simp only [n0, n1, n2, n3, getD_cons_zero, getD_cons_succ, set_cons_zero, set_cons_succ, zero_add, add_zero, mul_one, zero_mul, m2, m3, m4]
  refine plan_p rfl rfl pr_assign ?_
  try simp only [n0, n1, n2, n3, getD_cons_zero, getD_cons_succ, set_cons_zero, set_cons_succ, zero_add, add_zero, mul_one, zero_mul, m2, m3, m4]
  refine plan_nil hH ?_
  clear hH
  intro w14 hH
  refine hK13 _ _ ?_
  try clear hK13 K13
  refine wp_seq_k ?_
  intro K15 hK15
  refine wp_seq_k ?_
  intro K16 hK16
  refine wp_region_text [.q 0, .p 1, .p 2, .p 3, .p 4, .p 5, .p 6, .p 7, .p 8, .p 9] rfl ?_
  refine plan_q rfl rfl (qr_call cf24 (fun w' hw => sealed_calls w') rfl) ?_
  try simp only [n0, n1, n2, n3, getD_cons_zero, getD_cons_succ, set_cons_zero, set_cons_succ, zero_add, add_zero, mul_one, zero_mul, m2, m3, m4]
  refine plan_p rfl rfl (pr_not rfl) ?_
  try simp only [n0, n1, n2, n3, getD_cons_zero, getD_cons_succ, set_cons_zero, set_cons_succ, zero_add, add_zero, mul_one, zero_mul, m2, m3, m4]
  refine plan_p (v := BV false) rfl rfl (pr_move_v rfl) ?_
  try simp only [n0, n1, n2, n3, getD_cons_zero, getD_cons_succ, set_cons_zero, set_cons_succ, zero_add, add_zero, mul_one, zero_mul, m2, m3, m4]
  refine plan_p rfl rfl pr_move ?_
  try simp only [n0, n1, n2, n3, getD_cons_zero, getD_cons_succ, set_cons_zero, set_cons_succ, zero_add, add_zero, mul_one, zero_mul, m2, m3, m4]
  refine plan_p rfl rfl (pr_bin rfl rfl (by first | exact bin_neq_n (n := 0)  | exact bin_neq_i)) ?_
  try simp only [n0, n1, n2, n3, getD_cons_zero, getD_cons_succ, set_cons_zero, set_cons_succ, zero_add, add_zero, mul_one, zero_mul, m2, m3, m4]
  refine plan_p rfl rfl (pr_pick_f rfl) ?_
  try simp only [n0, n1, n2, n3, getD_cons_zero, getD_cons_succ, set_cons_zero, set_cons_succ, zero_add, add_zero, mul_one, zero_mul, m2, m3, m4]
  refine plan_p (v := BV false) rfl rfl (pr_move_v rfl) ?_
  try simp only [n0, n1, n2, n3, getD_cons_zero, getD_cons_succ, set_cons_zero, set_cons_succ, zero_add, add_zero, mul_one, zero_mul, m2, m3, m4]
  refine plan_p rfl rfl pr_move ?_
  try simp only [n0, n1, n2, n3, getD_cons_zero, getD_cons_succ, set_cons_zero, set_cons_succ, zero_add, add_zero, mul_one, zero_mul, m2, m3, m4]
  refine plan_p rfl rfl (pr_bin rfl rfl (by first | exact bin_neq_n (n := 1)  | exact bin_neq_i)) ?_
  try simp only [n0, n1, n2, n3, getD_cons_zero, getD_cons_succ, set_cons_zero, set_cons_succ, zero_add, add_zero, mul_one, zero_mul, m2, m3, m4]
  refine plan_p rfl rfl (pr_pick_f rfl) ?_
  try simp only [n0, n1, n2, n3, getD_cons_zero, getD_cons_succ, set_cons_zero, set_cons_succ, zero_add, add_zero, mul_one, zero_mul, m2, m3, m4]
  refine plan_nil hH ?_
  clear hH
  intro w17 hH
  refine hK16 _ _ ?_
  try clear hK16 K16
  refine wp_cond_false rfl ?_
  refine wp_skip ?_
  refine hK15 _ _ ?_
  try clear hK15 K15
  refine wp_seq_k ?_
  intro K18 hK18
  refine wp_region_plan [.p 0, .p 1, .p 3, .p 6, .q 2, .q 4, .q 5, .q 7, .q 8, .p 9, .p 10, .p 11] (by kernel_rfl) (by kernel_rfl) (by kernel_rfl) (by kernel_rfl) (fun _ _ _ _ _ h => by first | exact h | exact BP.panic _ _ _ _ _ h) ?_
  refine plan_p rfl rfl (pr_fieldAddr 0 rfl Try.underlying48 rfl rfl sz22) ?_
  try simp only [n0, n1, n2, n3, getD_cons_zero, getD_cons_succ, set_cons_zero, set_cons_succ, zero_add, add_zero, mul_one, zero_mul, m2, m3, m4]
  refine plan_p rfl rfl (pr_slice_arr_all rfl Try.underlying22 sz5) ?_
  try simp only [n0, n1, n2, n3, getD_cons_zero, getD_cons_succ, set_cons_zero, set_cons_succ, zero_add, add_zero, mul_one, zero_mul, m2, m3, m4]
  try simp only [Nat.mul_one, Nat.zero_add, Nat.add_sub_cancel_left]
  refine plan_p rfl rfl (pr_fieldAddr 17 rfl Try.underlying48 rfl rfl sz27) ?_
  try simp only [n0, n1, n2, n3, getD_cons_zero, getD_cons_succ, set_cons_zero, set_cons_succ, zero_add, add_zero, mul_one, zero_mul, m2, m3, m4]
  refine plan_p rfl rfl (pr_fieldAddr 18 rfl Try.underlying48 rfl rfl sz27) ?_
  try simp only [n0, n1, n2, n3, getD_cons_zero, getD_cons_succ, set_cons_zero, set_cons_succ, zero_add, add_zero, mul_one, zero_mul, m2, m3, m4]
  refine plan_q rfl rfl (qr_b2s (letter_key (hH.blk 0 rfl)) rfl Try.underlying27 Try.underlying5 Try.underlying9) ?_
  try simp only [n0, n1, n2, n3, getD_cons_zero, getD_cons_succ, set_cons_zero, set_cons_succ, zero_add, add_zero, mul_one, zero_mul, m2, m3, m4]
  refine plan_q rfl rfl (qr_load1 rfl Try.underlying27 rfl ((hH.blk 0 rfl).cell letterC_side)) ?_
  try simp only [n0, n1, n2, n3, getD_cons_zero, getD_cons_succ, set_cons_zero, set_cons_succ, zero_add, add_zero, mul_one, zero_mul, m2, m3, m4]
  refine plan_q rfl rfl (qr_call cf25 (fun w' hw => cut_calls _ _ w' ((ha.chg hH.chg).chg hw)) rfl) ?_
  try simp only [n0, n1, n2, n3, getD_cons_zero, getD_cons_succ, set_cons_zero, set_cons_succ, zero_add, add_zero, mul_one, zero_mul, m2, m3, m4]
  refine plan_q rfl rfl (qr_load1 rfl Try.underlying27 rfl ((hH.blk 0 rfl).cell letterC_bytes)) ?_
  try simp only [n0, n1, n2, n3, getD_cons_zero, getD_cons_succ, set_cons_zero, set_cons_succ, zero_add, add_zero, mul_one, zero_mul, m2, m3, m4]
  refine plan_q rfl rfl (qr_call cf25 (fun w' hw => cut_calls _ _ w' ((hb.chg hH.chg).chg hw)) rfl) ?_
  try simp only [n0, n1, n2, n3, getD_cons_zero, getD_cons_succ, set_cons_zero, set_cons_succ, zero_add, add_zero, mul_one, zero_mul, m2, m3, m4]
  refine plan_p rfl rfl pr_assign ?_
  try simp only [n0, n1, n2, n3, getD_cons_zero, getD_cons_succ, set_cons_zero, set_cons_succ, zero_add, add_zero, mul_one, zero_mul, m2, m3, m4]
  refine plan_p rfl rfl pr_assign ?_
  try simp only [n0, n1, n2, n3, getD_cons_zero, getD_cons_succ, set_cons_zero, set_cons_succ, zero_add, add_zero, mul_one, zero_mul, m2, m3, m4]
  refine plan_p rfl rfl pr_assign ?_
  try simp only [n0, n1, n2, n3, getD_cons_zero, getD_cons_succ, set_cons_zero, set_cons_succ, zero_add, add_zero, mul_one, zero_mul, m2, m3, m4]
  refine plan_nil hH ?_
  clear hH
  intro w19 hH
  refine hK18 _ _ ?_
  try clear hK18 K18
  refine wp_seq_k ?_
  intro K20 hK20
  refine wp_region_text [.p 0, .p 1, .q 2, .q 3, .p 4, .q 5, .p 6, .q 7, .q 8, .p 9, .p 10, .p 11, .p 12, .p 13] rfl ?_
  refine plan_p rfl rfl pr_move ?_
  try simp only [n0, n1, n2, n3, getD_cons_zero, getD_cons_succ, set_cons_zero, set_cons_succ, zero_add, add_zero, mul_one, zero_mul, m2, m3, m4]
  refine plan_p rfl rfl (pr_fieldAddr 16 rfl Try.underlying48 rfl rfl sz27) ?_
  try simp only [n0, n1, n2, n3, getD_cons_zero, getD_cons_succ, set_cons_zero, set_cons_succ, zero_add, add_zero, mul_one, zero_mul, m2, m3, m4]
  refine plan_q rfl rfl (qr_load1 rfl Try.underlying27 rfl ((hH.blk 0 rfl).cell letterC_nonce)) ?_
  try simp only [n0, n1, n2, n3, getD_cons_zero, getD_cons_succ, set_cons_zero, set_cons_succ, zero_add, add_zero, mul_one, zero_mul, m2, m3, m4]
  refine plan_q rfl rfl (qr_b2s (hn.chg hH.chg) rfl Try.underlying27 Try.underlying5 Try.underlying9) ?_
  try simp only [n0, n1, n2, n3, getD_cons_zero, getD_cons_succ, set_cons_zero, set_cons_succ, zero_add, add_zero, mul_one, zero_mul, m2, m3, m4]
  refine plan_p rfl rfl pr_move ?_
  try simp only [n0, n1, n2, n3, getD_cons_zero, getD_cons_succ, set_cons_zero, set_cons_succ, zero_add, add_zero, mul_one, zero_mul, m2, m3, m4]
  refine plan_q rfl rfl (qr_b2s (Sl.cuth (ha.chg hH.chg) (by omega)) rfl Try.underlying27 Try.underlying5 Try.underlying9) ?_
  try simp only [n0, n1, n2, n3, getD_cons_zero, getD_cons_succ, set_cons_zero, set_cons_succ, zero_add, add_zero, mul_one, zero_mul, m2, m3, m4]
  refine plan_p rfl rfl pr_move ?_
  try simp only [n0, n1, n2, n3, getD_cons_zero, getD_cons_succ, set_cons_zero, set_cons_succ, zero_add, add_zero, mul_one, zero_mul, m2, m3, m4]
  refine plan_q rfl rfl (qr_b2s (Sl.cuth (hb.chg hH.chg) (by omega)) rfl Try.underlying27 Try.underlying5 Try.underlying9) ?_
  try simp only [n0, n1, n2, n3, getD_cons_zero, getD_cons_succ, set_cons_zero, set_cons_succ, zero_add, add_zero, mul_one, zero_mul, m2, m3, m4]
  refine plan_q rfl rfl (qr_call cf30 (fun w' hw => refSeal_nonce _ undef _ _ _ w' (by rw [bsz]; exact hl)) rfl) ?_
  try simp only [n0, n1, n2, n3, getD_cons_zero, getD_cons_succ, set_cons_zero, set_cons_succ, zero_add, add_zero, mul_one, zero_mul, m2, m3, m4]
  refine plan_p rfl rfl pr_move ?_
  try simp only [n0, n1, n2, n3, getD_cons_zero, getD_cons_succ, set_cons_zero, set_cons_succ, zero_add, add_zero, mul_one, zero_mul, m2, m3, m4]
  refine plan_p rfl rfl (pr_extract rfl rfl) ?_
  try simp only [n0, n1, n2, n3, getD_cons_zero, getD_cons_succ, set_cons_zero, set_cons_succ, zero_add, add_zero, mul_one, zero_mul, m2, m3, m4]
  refine plan_p rfl rfl (pr_extract rfl rfl) ?_
  try simp only [n0, n1, n2, n3, getD_cons_zero, getD_cons_succ, set_cons_zero, set_cons_succ, zero_add, add_zero, mul_one, zero_mul, m2, m3, m4]
  refine plan_p rfl rfl pr_assign ?_
  try simp only [n0, n1, n2, n3, getD_cons_zero, getD_cons_succ, set_cons_zero, set_cons_succ, zero_add, add_zero, mul_one, zero_mul, m2, m3, m4]
  refine plan_p rfl rfl pr_assign ?_
  try simp only [n0, n1, n2, n3, getD_cons_zero, getD_cons_succ, set_cons_zero, set_cons_succ, zero_add, add_zero, mul_one, zero_mul, m2, m3, m4]
  refine plan_nil hH ?_
  clear hH
  intro w21 hH
  refine hK20 _ _ ?_
  try clear hK20 K20
  refine wp_seq_k ?_
  intro K22 hK22
  refine wp_region_text [.p 0, .p 1, .q 2, .p 3, .p 4, .q 5, .p 6, .p 7, .p 8, .p 9, .p 10] rfl ?_
  refine plan_p rfl rfl pr_move ?_
  try simp only [n0, n1, n2, n3, getD_cons_zero, getD_cons_succ, set_cons_zero, set_cons_succ, zero_add, add_zero, mul_one, zero_mul, m2, m3, m4]
  refine plan_p rfl rfl (pr_fieldAddr 16 rfl Try.underlying48 rfl rfl sz27) ?_
  try simp only [n0, n1, n2, n3, getD_cons_zero, getD_cons_succ, set_cons_zero, set_cons_succ, zero_add, add_zero, mul_one, zero_mul, m2, m3, m4]
  refine plan_q rfl rfl (qr_load1 rfl Try.underlying27 rfl ((hH.blk 0 rfl).cell letterC_nonce)) ?_
  try simp only [n0, n1, n2, n3, getD_cons_zero, getD_cons_succ, set_cons_zero, set_cons_succ, zero_add, add_zero, mul_one, zero_mul, m2, m3, m4]
  refine plan_p rfl rfl pr_move ?_
  try simp only [n0, n1, n2, n3, getD_cons_zero, getD_cons_succ, set_cons_zero, set_cons_succ, zero_add, add_zero, mul_one, zero_mul, m2, m3, m4]
  refine plan_p rfl rfl pr_move ?_
  try simp only [n0, n1, n2, n3, getD_cons_zero, getD_cons_succ, set_cons_zero, set_cons_succ, zero_add, add_zero, mul_one, zero_mul, m2, m3, m4]
  refine plan_q rfl rfl (qr_call cf26 (fun w' hw => Seal_nonce _ _ _ _ _ _ w' ((hn.chg hH.chg).chg hw) hl ((Sl.cuth (hb.chg hH.chg) (by omega)).chg hw) (by simp; omega)) rfl) ?_
  try simp only [n0, n1, n2, n3, getD_cons_zero, getD_cons_succ, set_cons_zero, set_cons_succ, zero_add, add_zero, mul_one, zero_mul, m2, m3, m4]
  refine plan_p rfl rfl pr_move ?_
  try simp only [n0, n1, n2, n3, getD_cons_zero, getD_cons_succ, set_cons_zero, set_cons_succ, zero_add, add_zero, mul_one, zero_mul, m2, m3, m4]
  refine plan_p rfl rfl (pr_extract rfl rfl) ?_
  try simp only [n0, n1, n2, n3, getD_cons_zero, getD_cons_succ, set_cons_zero, set_cons_succ, zero_add, add_zero, mul_one, zero_mul, m2, m3, m4]
  refine plan_p rfl rfl (pr_extract rfl rfl) ?_
  try simp only [n0, n1, n2, n3, getD_cons_zero, getD_cons_succ, set_cons_zero, set_cons_succ, zero_add, add_zero, mul_one, zero_mul, m2, m3, m4]
  refine plan_p rfl rfl pr_assign ?_
  try simp only [n0, n1, n2, n3, getD_cons_zero, getD_cons_succ, set_cons_zero, set_cons_succ, zero_add, add_zero, mul_one, zero_mul, m2, m3, m4]
  refine plan_p rfl rfl pr_assign ?_
  try simp only [n0, n1, n2, n3, getD_cons_zero, getD_cons_succ, set_cons_zero, set_cons_succ, zero_add, add_zero, mul_one, zero_mul, m2, m3, m4]
  refine plan_nil hH ?_
  clear hH
  intro w23 hH
  refine hK22 _ _ ?_
  try clear hK22 K22
  refine wp_seq_k ?_
  intro K24 hK24
  refine wp_region_text [.p 0, .p 1, .q 2, .q 3, .p 4, .q 5, .p 6, .q 7, .q 8, .p 9, .p 10, .p 11, .p 12, .p 13] rfl ?_
  refine plan_p rfl rfl pr_move ?_
  try simp only [n0, n1, n2, n3, getD_cons_zero, getD_cons_succ, set_cons_zero, set_cons_succ, zero_add, add_zero, mul_one, zero_mul, m2, m3, m4]
  refine plan_p rfl rfl (pr_fieldAddr 16 rfl Try.underlying48 rfl rfl sz27) ?_
  try simp only [n0, n1, n2, n3, getD_cons_zero, getD_cons_succ, set_cons_zero, set_cons_succ, zero_add, add_zero, mul_one, zero_mul, m2, m3, m4]
  refine plan_q rfl rfl (qr_load1 rfl Try.underlying27 rfl ((hH.blk 0 rfl).cell letterC_nonce)) ?_
  try simp only [n0, n1, n2, n3, getD_cons_zero, getD_cons_succ, set_cons_zero, set_cons_succ, zero_add, add_zero, mul_one, zero_mul, m2, m3, m4]
  refine plan_q rfl rfl (qr_b2s (hn.chg hH.chg) rfl Try.underlying27 Try.underlying5 Try.underlying9) ?_
  try simp only [n0, n1, n2, n3, getD_cons_zero, getD_cons_succ, set_cons_zero, set_cons_succ, zero_add, add_zero, mul_one, zero_mul, m2, m3, m4]
  refine plan_p rfl rfl pr_move ?_
  try simp only [n0, n1, n2, n3, getD_cons_zero, getD_cons_succ, set_cons_zero, set_cons_succ, zero_add, add_zero, mul_one, zero_mul, m2, m3, m4]
  refine plan_q rfl rfl (qr_b2s (Sl.cuth (ha.chg hH.chg) (by omega)) rfl Try.underlying27 Try.underlying5 Try.underlying9) ?_
  try simp only [n0, n1, n2, n3, getD_cons_zero, getD_cons_succ, set_cons_zero, set_cons_succ, zero_add, add_zero, mul_one, zero_mul, m2, m3, m4]
  refine plan_p rfl rfl pr_move ?_
  try simp only [n0, n1, n2, n3, getD_cons_zero, getD_cons_succ, set_cons_zero, set_cons_succ, zero_add, add_zero, mul_one, zero_mul, m2, m3, m4]
  refine plan_q rfl rfl (qr_b2s (Sl.cuth (hb.chg hH.chg) (by omega)) rfl Try.underlying27 Try.underlying5 Try.underlying9) ?_
  try simp only [n0, n1, n2, n3, getD_cons_zero, getD_cons_succ, set_cons_zero, set_cons_succ, zero_add, add_zero, mul_one, zero_mul, m2, m3, m4]
  refine plan_q rfl rfl (qr_call cf31 (fun w' hw => refOpen_nonce _ _ _ _ w' (by rw [bsz]; exact hl)) rfl) ?_
  try simp only [n0, n1, n2, n3, getD_cons_zero, getD_cons_succ, set_cons_zero, set_cons_succ, zero_add, add_zero, mul_one, zero_mul, m2, m3, m4]
  refine plan_p rfl rfl pr_move ?_
  try simp only [n0, n1, n2, n3, getD_cons_zero, getD_cons_succ, set_cons_zero, set_cons_succ, zero_add, add_zero, mul_one, zero_mul, m2, m3, m4]
  refine plan_p rfl rfl (pr_extract rfl rfl) ?_
  try simp only [n0, n1, n2, n3, getD_cons_zero, getD_cons_succ, set_cons_zero, set_cons_succ, zero_add, add_zero, mul_one, zero_mul, m2, m3, m4]
  refine plan_p rfl rfl (pr_extract rfl rfl) ?_
  try simp only [n0, n1, n2, n3, getD_cons_zero, getD_cons_succ, set_cons_zero, set_cons_succ, zero_add, add_zero, mul_one, zero_mul, m2, m3, m4]
  refine plan_p rfl rfl pr_assign ?_
  try simp only [n0, n1, n2, n3, getD_cons_zero, getD_cons_succ, set_cons_zero, set_cons_succ, zero_add, add_zero, mul_one, zero_mul, m2, m3, m4]
  refine plan_p rfl rfl pr_assign ?_
  try simp only [n0, n1, n2, n3, getD_cons_zero, getD_cons_succ, set_cons_zero, set_cons_succ, zero_add, add_zero, mul_one, zero_mul, m2, m3, m4]
  refine plan_nil hH ?_
  clear hH
  intro w25 hH
  refine hK24 _ _ ?_
  try clear hK24 K24
  refine wp_seq_k ?_
  intro K26 hK26
  refine wp_region_text [.p 0, .p 1, .q 2, .p 3, .p 4, .q 5, .p 6, .p 7, .p 8, .p 9, .p 10] rfl ?_
  refine plan_p rfl rfl pr_move ?_
  try simp only [n0, n1, n2, n3, getD_cons_zero, getD_cons_succ, set_cons_zero, set_cons_succ, zero_add, add_zero, mul_one, zero_mul, m2, m3, m4]
  refine plan_p rfl rfl (pr_fieldAddr 16 rfl Try.underlying48 rfl rfl sz27) ?_
  try simp only [n0, n1, n2, n3, getD_cons_zero, getD_cons_succ, set_cons_zero, set_cons_succ, zero_add, add_zero, mul_one, zero_mul, m2, m3, m4]
  refine plan_q rfl rfl (qr_load1 rfl Try.underlying27 rfl ((hH.blk 0 rfl).cell letterC_nonce)) ?_
  try simp only [n0, n1, n2, n3, getD_cons_zero, getD_cons_succ, set_cons_zero, set_cons_succ, zero_add, add_zero, mul_one, zero_mul, m2, m3, m4]
  refine plan_p rfl rfl pr_move ?_
  try simp only [n0, n1, n2, n3, getD_cons_zero, getD_cons_succ, set_cons_zero, set_cons_succ, zero_add, add_zero, mul_one, zero_mul, m2, m3, m4]
  refine plan_p rfl rfl pr_move ?_
  try simp only [n0, n1, n2, n3, getD_cons_zero, getD_cons_succ, set_cons_zero, set_cons_succ, zero_add, add_zero, mul_one, zero_mul, m2, m3, m4]
  refine plan_q rfl rfl (qr_call cf32 (fun w' hw => Open_nonce _ _ _ _ _ _ w' ((hn.chg hH.chg).chg hw) hl ((Sl.cuth (hb.chg hH.chg) (by omega)).chg hw) (by simp <;> omega)) rfl) ?_
  try simp only [n0, n1, n2, n3, getD_cons_zero, getD_cons_succ, set_cons_zero, set_cons_succ, zero_add, add_zero, mul_one, zero_mul, m2, m3, m4]
  refine plan_p rfl rfl pr_move ?_
  try simp only [n0, n1, n2, n3, getD_cons_zero, getD_cons_succ, set_cons_zero, set_cons_succ, zero_add, add_zero, mul_one, zero_mul, m2, m3, m4]
  refine plan_p rfl rfl (pr_extract rfl rfl) ?_
  try simp only [n0, n1, n2, n3, getD_cons_zero, getD_cons_succ, set_cons_zero, set_cons_succ, zero_add, add_zero, mul_one, zero_mul, m2, m3, m4]
  refine plan_p rfl rfl (pr_extract rfl rfl) ?_
  try simp only [n0, n1, n2, n3, getD_cons_zero, getD_cons_succ, set_cons_zero, set_cons_succ, zero_add, add_zero, mul_one, zero_mul, m2, m3, m4]
  refine plan_p rfl rfl pr_assign ?_
  try simp only [n0, n1, n2, n3, getD_cons_zero, getD_cons_succ, set_cons_zero, set_cons_succ, zero_add, add_zero, mul_one, zero_mul, m2, m3, m4]
  refine plan_p rfl rfl pr_assign ?_
  try simp only [n0, n1, n2, n3, getD_cons_zero, getD_cons_succ, set_cons_zero, set_cons_succ, zero_add, add_zero, mul_one, zero_mul, m2, m3, m4]
  refine plan_nil hH ?_
  clear hH
  intro w27 hH
  refine hK26 _ _ ?_
  try clear hK26 K26
  refine wp_seq_k ?_
  intro K28 hK28
  refine wp_region_text [.p 0, .q 1, .p 2, .p 3, .p 4, .p 5, .p 6, .p 7, .p 8, .p 9, .p 10, .q 11, .p 12, .p 13, .p 14, .p 15, .p 16, .p 17, .p 18, .p 19, .p 20] rfl ?_
  refine plan_p rfl rfl pr_move ?_
  try simp only [n0, n1, n2, n3, getD_cons_zero, getD_cons_succ, set_cons_zero, set_cons_succ, zero_add, add_zero, mul_one, zero_mul, m2, m3, m4]
  refine plan_q rfl rfl (qr_b2s Sl.nil rfl Try.underlying27 Try.underlying5 Try.underlying9) ?_
  try simp only [n0, n1, n2, n3, getD_cons_zero, getD_cons_succ, set_cons_zero, set_cons_succ, zero_add, add_zero, mul_one, zero_mul, m2, m3, m4]
  refine plan_p rfl rfl pr_move ?_
  try simp only [n0, n1, n2, n3, getD_cons_zero, getD_cons_succ, set_cons_zero, set_cons_succ, zero_add, add_zero, mul_one, zero_mul, m2, m3, m4]
  refine plan_p rfl rfl (pr_bin rfl rfl bin_eql_s) ?_
  try simp only [n0, n1, n2, n3, getD_cons_zero, getD_cons_succ, set_cons_zero, set_cons_succ, zero_add, add_zero, mul_one, zero_mul, m2, m3, m4]
  refine plan_p (v := BV true) rfl rfl (pr_move_v (by show BV (_ == _) = _; exact congrArg BV (beq_self_eq_true _))) ?_
  try simp only [n0, n1, n2, n3, getD_cons_zero, getD_cons_succ, set_cons_zero, set_cons_succ, zero_add, add_zero, mul_one, zero_mul, m2, m3, m4]
  refine plan_p rfl rfl pr_move ?_
  try simp only [n0, n1, n2, n3, getD_cons_zero, getD_cons_succ, set_cons_zero, set_cons_succ, zero_add, add_zero, mul_one, zero_mul, m2, m3, m4]
  refine plan_p rfl rfl pr_move ?_
  try simp only [n0, n1, n2, n3, getD_cons_zero, getD_cons_succ, set_cons_zero, set_cons_succ, zero_add, add_zero, mul_one, zero_mul, m2, m3, m4]
  refine plan_p rfl rfl (pr_bin rfl rfl (by first | exact bin_eql_n  | exact bin_eql_i)) ?_
  try simp only [n0, n1, n2, n3, getD_cons_zero, getD_cons_succ, set_cons_zero, set_cons_succ, zero_add, add_zero, mul_one, zero_mul, m2, m3, m4]
  refine plan_p rfl rfl (pr_pick_t rfl) ?_
  try simp only [n0, n1, n2, n3, getD_cons_zero, getD_cons_succ, set_cons_zero, set_cons_succ, zero_add, add_zero, mul_one, zero_mul, m2, m3, m4]
  refine plan_p (v := BV true) rfl rfl (pr_move_v rfl) ?_
  try simp only [n0, n1, n2, n3, getD_cons_zero, getD_cons_succ, set_cons_zero, set_cons_succ, zero_add, add_zero, mul_one, zero_mul, m2, m3, m4]
  refine plan_p rfl rfl pr_move ?_
  try simp only [n0, n1, n2, n3, getD_cons_zero, getD_cons_succ, set_cons_zero, set_cons_succ, zero_add, add_zero, mul_one, zero_mul, m2, m3, m4]
  refine plan_q rfl rfl (qr_b2s Sl.nil rfl Try.underlying27 Try.underlying5 Try.underlying9) ?_
  try simp only [n0, n1, n2, n3, getD_cons_zero, getD_cons_succ, set_cons_zero, set_cons_succ, zero_add, add_zero, mul_one, zero_mul, m2, m3, m4]
  refine plan_p rfl rfl pr_move ?_
  try simp only [n0, n1, n2, n3, getD_cons_zero, getD_cons_succ, set_cons_zero, set_cons_succ, zero_add, add_zero, mul_one, zero_mul, m2, m3, m4]
  refine plan_p rfl rfl (pr_bin rfl rfl bin_eql_s) ?_
  try simp only [n0, n1, n2, n3, getD_cons_zero, getD_cons_succ, set_cons_zero, set_cons_succ, zero_add, add_zero, mul_one, zero_mul, m2, m3, m4]
  refine plan_p rfl rfl (pr_pick_t rfl) ?_
  try simp only [n0, n1, n2, n3, getD_cons_zero, getD_cons_succ, set_cons_zero, set_cons_succ, zero_add, add_zero, mul_one, zero_mul, m2, m3, m4]
  refine plan_p (v := BV true) rfl rfl (pr_move_v (by show BV (_ == _) = _; exact congrArg BV (beq_self_eq_true _))) ?_
  try simp only [n0, n1, n2, n3, getD_cons_zero, getD_cons_succ, set_cons_zero, set_cons_succ, zero_add, add_zero, mul_one, zero_mul, m2, m3, m4]
  refine plan_p rfl rfl pr_move ?_
  try simp only [n0, n1, n2, n3, getD_cons_zero, getD_cons_succ, set_cons_zero, set_cons_succ, zero_add, add_zero, mul_one, zero_mul, m2, m3, m4]
  refine plan_p rfl rfl pr_move ?_
  try simp only [n0, n1, n2, n3, getD_cons_zero, getD_cons_succ, set_cons_zero, set_cons_succ, zero_add, add_zero, mul_one, zero_mul, m2, m3, m4]
  refine plan_p rfl rfl (pr_bin rfl rfl (by first | exact bin_eql_n  | exact bin_eql_i)) ?_
  try simp only [n0, n1, n2, n3, getD_cons_zero, getD_cons_succ, set_cons_zero, set_cons_succ, zero_add, add_zero, mul_one, zero_mul, m2, m3, m4]
  refine plan_p rfl rfl (pr_pick_t rfl) ?_
  try simp only [n0, n1, n2, n3, getD_cons_zero, getD_cons_succ, set_cons_zero, set_cons_succ, zero_add, add_zero, mul_one, zero_mul, m2, m3, m4]
  refine plan_p rfl rfl pr_assign ?_
  try simp only [n0, n1, n2, n3, getD_cons_zero, getD_cons_succ, set_cons_zero, set_cons_succ, zero_add, add_zero, mul_one, zero_mul, m2, m3, m4]
  refine plan_nil hH ?_
  clear hH
  intro w29 hH
  refine hK28 _ _ ?_
  try clear hK28 K28
  refine wp_ret ?_
  try simp only [Exit.then, Exit.inBlock, ↓reduceIte, Nat.reduceEqDiff]
  refine BP.ret1 rfl rfl ?_
  exact ⟨rfl, hH.chg⟩

theorem gcmseal_short (f : Nat → UInt8) (nv av bv : Value) (nl al bl : List UInt8) (w : World) (hn : Sl w nv nl) (ha : Sl w av al) (hb : Sl w bv bl) (hnl : nl.length ≤ reachBytes) (hl : nl.length = 12) (h16 : (bl.take (min bl.length 120)).length < 16) : Ret Try.prog 11 #[.agg (letterC f nv av bv)] w fun v w' => v = BV true ∧ Chg [] w w' := by
  refine Ret.enter Try.func11 rfl ?_
  simp only [Try.ntmps11, List.size_toArray, List.length_cons, List.length_nil, Nat.reduceAdd, Nat.reduceSub, frame_enter, List.replicate_succ, List.replicate_zero, List.nil_append, List.cons_append]
  have hH := Hp.start [] w
  refine wp_seq_k ?_
  intro K1 hK1
  refine wp_region_text [.x 0, .p 1] rfl ?_
  refine plan_box rfl rfl hH rfl ?_
  clear hH
  intro b2 w3 hH
  try simp only [n0, n1, n2, n3, getD_cons_zero, getD_cons_succ, set_cons_zero, set_cons_succ, zero_add, add_zero, mul_one, zero_mul, m2, m3, m4, m5, m6, m7, Value.cells, arr8_set, arr32_set, arr64_set, arrB_set] at hH ⊢
  refine plan_p rfl rfl pr_assign ?_
  try simp only [n0, n1, n2, n3, getD_cons_zero, getD_cons_succ, set_cons_zero, set_cons_succ, zero_add, add_zero, mul_one, zero_mul, m2, m3, m4]
  refine plan_nil hH ?_
  clear hH
  intro w4 hH
  refine hK1 _ _ ?_
  try clear hK1 K1
  refine wp_seq_k ?_
  intro K5 hK5
  refine wp_region_text [.p 0, .p 1, .x 2, .p 3, .p 4, .p 5, .p 6, .p 7] rfl ?_
  refine plan_p rfl rfl (pr_fieldAddr 0 rfl Try.underlying48 rfl rfl sz22) ?_
  try simp only [n0, n1, n2, n3, getD_cons_zero, getD_cons_succ, set_cons_zero, set_cons_succ, zero_add, add_zero, mul_one, zero_mul, m2, m3, m4]
  refine plan_p rfl rfl (pr_slice_arr_all rfl Try.underlying22 sz5) ?_
  try simp only [n0, n1, n2, n3, getD_cons_zero, getD_cons_succ, set_cons_zero, set_cons_succ, zero_add, add_zero, mul_one, zero_mul, m2, m3, m4]
  try simp only [Nat.mul_one, Nat.zero_add, Nat.add_sub_cancel_left]
  refine plan_callx rfl rfl hH cf23 (fun w' hH => gnew_calls _ _ w' (letter_key (hH.blk 0 rfl)) (by simp)) rfl (fun _ _ _ h => by obtain ⟨_, _, _, hg, _⟩ := h; exact hg) ?_
  clear hH
  intro w6 v7 w8 hH hp9
  obtain ⟨b10, b11, rfl, hg, hfc, hbc, hfx, hbx, hne⟩ := hp9
  replace hH := hH.callnew2 hg hbc hfc hbx hfx hne
  clear hg hfc hbc hfx hbx hne
  try simp only [n0, n1, n2, n3, getD_cons_zero, getD_cons_succ, set_cons_zero, set_cons_succ, zero_add, add_zero, mul_one, zero_mul, m2, m3, m4, m5, m6, m7, Value.cells, arr8_set, arr32_set, arr64_set, arrB_set] at hH ⊢
  try simp only [n0, n1, n2, n3, getD_cons_zero, getD_cons_succ, set_cons_zero, set_cons_succ, zero_add, add_zero, mul_one, zero_mul, m2, m3, m4]
  refine plan_p rfl rfl pr_move ?_
  try simp only [n0, n1, n2, n3, getD_cons_zero, getD_cons_succ, set_cons_zero, set_cons_succ, zero_add, add_zero, mul_one, zero_mul, m2, m3, m4]
  refine plan_p rfl rfl (pr_extract rfl rfl) ?_
  try simp only [n0, n1, n2, n3, getD_cons_zero, getD_cons_succ, set_cons_zero, set_cons_succ, zero_add, add_zero, mul_one, zero_mul, m2, m3, m4]
  refine plan_p rfl rfl (pr_extract rfl rfl) ?_
  try simp only [n0, n1, n2, n3, getD_cons_zero, getD_cons_succ, set_cons_zero, set_cons_succ, zero_add, add_zero, mul_one, zero_mul, m2, m3, m4]
  refine plan_p rfl rfl pr_assign ?_
  try simp only [n0, n1, n2, n3, getD_cons_zero, getD_cons_succ, set_cons_zero, set_cons_succ, zero_add, add_zero, mul_one, zero_mul, m2, m3, m4]
  refine plan_p rfl rfl pr_assign ?_
  try simp only [n0, n1, n2, n3, getD_cons_zero, getD_cons_succ, set_cons_zero, set_cons_succ, zero_add, add_zero, mul_one, zero_mul, m2, m3, m4]
  refine plan_nil hH ?_
  clear hH
  intro w12 hH
  refine hK5 _ _ ?_
  try clear hK5 K5
  refine wp_seq_k ?_
  intro K13 hK13
  refine wp_region_text [.q 0, .q 1, .p 2, .p 3, .p 4, .p 5, .p 6] rfl ?_
  refine plan_q rfl rfl (qr_call cf29 (fun w' hw => none4_calls w') rfl) ?_
  try simp only [n0, n1, n2, n3, getD_cons_zero, getD_cons_succ, set_cons_zero, set_cons_succ, zero_add, add_zero, mul_one, zero_mul, m2, m3, m4]
  refine plan_q rfl rfl (qr_call cf26 (fun w' hw => Seal_nil _ _ _ _ w' Sl.nil (by simp)) rfl) ?_
  try simp only [n0, n1, n2, n3, getD_cons_zero, getD_cons_succ, set_cons_zero, set_cons_succ, zero_add, add_zero, mul_one, zero_mul, m2, m3, m4]
  refine plan_p rfl rfl pr_move ?_
  try simp only [n0, n1, n2, n3, getD_cons_zero, getD_cons_succ, set_cons_zero, set_cons_succ, zero_add, add_zero, mul_one, zero_mul, m2, m3, m4]
  refine plan_p rfl rfl (pr_extract rfl rfl) ?_
  try simp only [n0, n1, n2, n3, getD_cons_zero, getD_cons_succ, set_cons_zero, set_cons_succ, zero_add, add_zero, mul_one, zero_mul, m2, m3, m4]
  refine plan_p rfl rfl (pr_extract rfl rfl) ?_
  try simp only [n0, n1, n2, n3, getD_cons_zero, getD_cons_succ, set_cons_zero, set_cons_succ, zero_add, add_zero, mul_one, zero_mul, m2, m3, m4]
  refine plan_p rfl rfl pr_assign ?_
  try simp only [n0, n1, n2, n3, getD_cons_zero, getD_cons_succ, set_cons_zero, set_cons_succ, zero_add, add_zero, mul_one, zero_mul, m2, m3, m4]
  refine plan_p rfl rfl pr_assign ?_
  try simp only [n0, n1, n2, n3, getD_cons_zero, getD_cons_succ, set_cons_zero, set_cons_succ, zero_add, add_zero, mul_one, zero_mul, m2, m3, m4]
  refine plan_nil hH ?_
  clear hH
  intro w14 hH
  refine hK13 _ _ ?_
  try clear hK13 K13
  refine wp_seq_k ?_
  intro K15 hK15
  refine wp_seq_k ?_
  intro K16 hK16
  refine wp_region_text [.q 0, .p 1, .p 2, .p 3, .p 4, .p 5, .p 6, .p 7, .p 8, .p 9] rfl ?_
  refine plan_q rfl rfl (qr_call cf24 (fun w' hw => sealed_calls w') rfl) ?_
  try simp only [n0, n1, n2, n3, getD_cons_zero, getD_cons_succ, set_cons_zero, set_cons_succ, zero_add, add_zero, mul_one, zero_mul, m2, m3, m4]
  refine plan_p rfl rfl (pr_not rfl) ?_
  try simp only [n0, n1, n2, n3, getD_cons_zero, getD_cons_succ, set_cons_zero, set_cons_succ, zero_add, add_zero, mul_one, zero_mul, m2, m3, m4]
  refine plan_p (v := BV false) rfl rfl (pr_move_v rfl) ?_
  try simp only [n0, n1, n2, n3, getD_cons_zero, getD_cons_succ, set_cons_zero, set_cons_succ, zero_add, add_zero, mul_one, zero_mul, m2, m3, m4]
  refine plan_p rfl rfl pr_move ?_
  try simp only [n0, n1, n2, n3, getD_cons_zero, getD_cons_succ, set_cons_zero, set_cons_succ, zero_add, add_zero, mul_one, zero_mul, m2, m3, m4]
  refine plan_p rfl rfl (pr_bin rfl rfl (by first | exact bin_neq_n (n := 0)  | exact bin_neq_i)) ?_
  try simp only [n0, n1, n2, n3, getD_cons_zero, getD_cons_succ, set_cons_zero, set_cons_succ, zero_add, add_zero, mul_one, zero_mul, m2, m3, m4]
  refine plan_p rfl rfl (pr_pick_f rfl) ?_
  try simp only [n0, n1, n2, n3, getD_cons_zero, getD_cons_succ, set_cons_zero, set_cons_succ, zero_add, add_zero, mul_one, zero_mul, m2, m3, m4]
  refine plan_p (v := BV false) rfl rfl (pr_move_v rfl) ?_
  try simp only [n0, n1, n2, n3, getD_cons_zero, getD_cons_succ, set_cons_zero, set_cons_succ, zero_add, add_zero, mul_one, zero_mul, m2, m3, m4]
  refine plan_p rfl rfl pr_move ?_
  try simp only [n0, n1, n2, n3, getD_cons_zero, getD_cons_succ, set_cons_zero, set_cons_succ, zero_add, add_zero, mul_one, zero_mul, m2, m3, m4]
  refine plan_p rfl rfl (pr_bin rfl rfl (by first | exact bin_neq_n (n := 1)  | exact bin_neq_i)) ?_
  try simp only [n0, n1, n2, n3, getD_cons_zero, getD_cons_succ, set_cons_zero, set_cons_succ, zero_add, add_zero, mul_one, zero_mul, m2, m3, m4]
  refine plan_p rfl rfl (pr_pick_f rfl) ?_
  try simp only [n0, n1, n2, n3, getD_cons_zero, getD_cons_succ, set_cons_zero, set_cons_succ, zero_add, add_zero, mul_one, zero_mul, m2, m3, m4]
  refine plan_nil hH ?_
  clear hH
  intro w17 hH
  refine hK16 _ _ ?_
  try clear hK16 K16
  refine wp_cond_false rfl ?_
  refine wp_skip ?_
  refine hK15 _ _ ?_
  try clear hK15 K15
  refine wp_seq_k ?_
  intro K18 hK18
  refine wp_region_plan [.p 0, .p 1, .p 3, .p 6, .q 2, .q 4, .q 5, .q 7, .q 8, .p 9, .p 10, .p 11] (by kernel_rfl) (by kernel_rfl) (by kernel_rfl) (by kernel_rfl) (fun _ _ _ _ _ h => by first | exact h | exact BP.panic _ _ _ _ _ h) ?_
  refine plan_p rfl rfl (pr_fieldAddr 0 rfl Try.underlying48 rfl rfl sz22) ?_
  try simp only [n0, n1, n2, n3, getD_cons_zero, getD_cons_succ, set_cons_zero, set_cons_succ, zero_add, add_zero, mul_one, zero_mul, m2, m3, m4]
  refine plan_p rfl rfl (pr_slice_arr_all rfl Try.underlying22 sz5) ?_
  try simp only [n0, n1, n2, n3, getD_cons_zero, getD_cons_succ, set_cons_zero, set_cons_succ, zero_add, add_zero, mul_one, zero_mul, m2, m3, m4]
  try simp only [Nat.mul_one, Nat.zero_add, Nat.add_sub_cancel_left]
  refine plan_p rfl rfl (pr_fieldAddr 17 rfl Try.underlying48 rfl rfl sz27) ?_
  try simp only [n0, n1, n2, n3, getD_cons_zero, getD_cons_succ, set_cons_zero, set_cons_succ, zero_add, add_zero, mul_one, zero_mul, m2, m3, m4]
  refine plan_p rfl rfl (pr_fieldAddr 18 rfl Try.underlying48 rfl rfl sz27) ?_
  try simp only [n0, n1, n2, n3, getD_cons_zero, getD_cons_succ, set_cons_zero, set_cons_succ, zero_add, add_zero, mul_one, zero_mul, m2, m3, m4]
  refine plan_q rfl rfl (qr_b2s (letter_key (hH.blk 0 rfl)) rfl Try.underlying27 Try.underlying5 Try.underlying9) ?_
  try simp only [n0, n1, n2, n3, getD_cons_zero, getD_cons_succ, set_cons_zero, set_cons_succ, zero_add, add_zero, mul_one, zero_mul, m2, m3, m4]
  refine plan_q rfl rfl (qr_load1 rfl Try.underlying27 rfl ((hH.blk 0 rfl).cell letterC_side)) ?_
  try simp only [n0, n1, n2, n3, getD_cons_zero, getD_cons_succ, set_cons_zero, set_cons_succ, zero_add, add_zero, mul_one, zero_mul, m2, m3, m4]
  refine plan_q rfl rfl (qr_call cf25 (fun w' hw => cut_calls _ _ w' ((ha.chg hH.chg).chg hw)) rfl) ?_
  try simp only [n0, n1, n2, n3, getD_cons_zero, getD_cons_succ, set_cons_zero, set_cons_succ, zero_add, add_zero, mul_one, zero_mul, m2, m3, m4]
  refine plan_q rfl rfl (qr_load1 rfl Try.underlying27 rfl ((hH.blk 0 rfl).cell letterC_bytes)) ?_
  try simp only [n0, n1, n2, n3, getD_cons_zero, getD_cons_succ, set_cons_zero, set_cons_succ, zero_add, add_zero, mul_one, zero_mul, m2, m3, m4]
  refine plan_q rfl rfl (qr_call cf25 (fun w' hw => cut_calls _ _ w' ((hb.chg hH.chg).chg hw)) rfl) ?_
  try simp only [n0, n1, n2, n3, getD_cons_zero, getD_cons_succ, set_cons_zero, set_cons_succ, zero_add, add_zero, mul_one, zero_mul, m2, m3, m4]
  refine plan_p rfl rfl pr_assign ?_
  try simp only [n0, n1, n2, n3, getD_cons_zero, getD_cons_succ, set_cons_zero, set_cons_succ, zero_add, add_zero, mul_one, zero_mul, m2, m3, m4]
  refine plan_p rfl rfl pr_assign ?_
  try simp only [n0, n1, n2, n3, getD_cons_zero, getD_cons_succ, set_cons_zero, set_cons_succ, zero_add, add_zero, mul_one, zero_mul, m2, m3, m4]
  refine plan_p rfl rfl pr_assign ?_
  try simp only [n0, n1, n2, n3, getD_cons_zero, getD_cons_succ, set_cons_zero, set_cons_succ, zero_add, add_zero, mul_one, zero_mul, m2, m3, m4]
  refine plan_nil hH ?_
  clear hH
  intro w19 hH
  refine hK18 _ _ ?_
  try clear hK18 K18
  refine wp_seq_k ?_
  intro K20 hK20
  refine wp_region_text [.p 0, .p 1, .q 2, .q 3, .p 4, .q 5, .p 6, .q 7, .q 8, .p 9, .p 10, .p 11, .p 12, .p 13] rfl ?_
  refine plan_p rfl rfl pr_move ?_
  try simp only [n0, n1, n2, n3, getD_cons_zero, getD_cons_succ, set_cons_zero, set_cons_succ, zero_add, add_zero, mul_one, zero_mul, m2, m3, m4]
  refine plan_p rfl rfl (pr_fieldAddr 16 rfl Try.underlying48 rfl rfl sz27) ?_
  try simp only [n0, n1, n2, n3, getD_cons_zero, getD_cons_succ, set_cons_zero, set_cons_succ, zero_add, add_zero, mul_one, zero_mul, m2, m3, m4]
  refine plan_q rfl rfl (qr_load1 rfl Try.underlying27 rfl ((hH.blk 0 rfl).cell letterC_nonce)) ?_
  try simp only [n0, n1, n2, n3, getD_cons_zero, getD_cons_succ, set_cons_zero, set_cons_succ, zero_add, add_zero, mul_one, zero_mul, m2, m3, m4]
  refine plan_q rfl rfl (qr_b2s (hn.chg hH.chg) rfl Try.underlying27 Try.underlying5 Try.underlying9) ?_
  try simp only [n0, n1, n2, n3, getD_cons_zero, getD_cons_succ, set_cons_zero, set_cons_succ, zero_add, add_zero, mul_one, zero_mul, m2, m3, m4]
  refine plan_p rfl rfl pr_move ?_
  try simp only [n0, n1, n2, n3, getD_cons_zero, getD_cons_succ, set_cons_zero, set_cons_succ, zero_add, add_zero, mul_one, zero_mul, m2, m3, m4]
  refine plan_q rfl rfl (qr_b2s (Sl.cuth (ha.chg hH.chg) (by omega)) rfl Try.underlying27 Try.underlying5 Try.underlying9) ?_
  try simp only [n0, n1, n2, n3, getD_cons_zero, getD_cons_succ, set_cons_zero, set_cons_succ, zero_add, add_zero, mul_one, zero_mul, m2, m3, m4]
  refine plan_p rfl rfl pr_move ?_
  try simp only [n0, n1, n2, n3, getD_cons_zero, getD_cons_succ, set_cons_zero, set_cons_succ, zero_add, add_zero, mul_one, zero_mul, m2, m3, m4]
  refine plan_q rfl rfl (qr_b2s (Sl.cuth (hb.chg hH.chg) (by omega)) rfl Try.underlying27 Try.underlying5 Try.underlying9) ?_
  try simp only [n0, n1, n2, n3, getD_cons_zero, getD_cons_succ, set_cons_zero, set_cons_succ, zero_add, add_zero, mul_one, zero_mul, m2, m3, m4]
  refine plan_q rfl rfl (qr_call cf30 (fun w' hw => refSeal_calls ⟨((List.range 16).map fun i => f i).toArray⟩ ⟨nl.toArray⟩ ⟨(al.take (min al.length 120)).toArray⟩ ⟨(bl.take (min bl.length 120)).toArray⟩ w' (by simp) (by rw [bsz]; exact hl) (by rw [bsz]; simp; omega) (by rw [bsz]; simp; omega)) rfl) ?_
  try simp only [n0, n1, n2, n3, getD_cons_zero, getD_cons_succ, set_cons_zero, set_cons_succ, zero_add, add_zero, mul_one, zero_mul, m2, m3, m4]
  refine plan_p rfl rfl pr_move ?_
  try simp only [n0, n1, n2, n3, getD_cons_zero, getD_cons_succ, set_cons_zero, set_cons_succ, zero_add, add_zero, mul_one, zero_mul, m2, m3, m4]
  refine plan_p rfl rfl (pr_extract rfl rfl) ?_
  try simp only [n0, n1, n2, n3, getD_cons_zero, getD_cons_succ, set_cons_zero, set_cons_succ, zero_add, add_zero, mul_one, zero_mul, m2, m3, m4]
  refine plan_p rfl rfl (pr_extract rfl rfl) ?_
  try simp only [n0, n1, n2, n3, getD_cons_zero, getD_cons_succ, set_cons_zero, set_cons_succ, zero_add, add_zero, mul_one, zero_mul, m2, m3, m4]
  refine plan_p rfl rfl pr_assign ?_
  try simp only [n0, n1, n2, n3, getD_cons_zero, getD_cons_succ, set_cons_zero, set_cons_succ, zero_add, add_zero, mul_one, zero_mul, m2, m3, m4]
  refine plan_p rfl rfl pr_assign ?_
  try simp only [n0, n1, n2, n3, getD_cons_zero, getD_cons_succ, set_cons_zero, set_cons_succ, zero_add, add_zero, mul_one, zero_mul, m2, m3, m4]
  refine plan_nil hH ?_
  clear hH
  intro w21 hH
  refine hK20 _ _ ?_
  try clear hK20 K20
  refine wp_seq_k ?_
  intro K22 hK22
  refine wp_region_text [.p 0, .p 1, .q 2, .p 3, .p 4, .x 5, .p 6, .p 7, .p 8, .p 9, .p 10] rfl ?_
  refine plan_p rfl rfl pr_move ?_
  try simp only [n0, n1, n2, n3, getD_cons_zero, getD_cons_succ, set_cons_zero, set_cons_succ, zero_add, add_zero, mul_one, zero_mul, m2, m3, m4]
  refine plan_p rfl rfl (pr_fieldAddr 16 rfl Try.underlying48 rfl rfl sz27) ?_
  try simp only [n0, n1, n2, n3, getD_cons_zero, getD_cons_succ, set_cons_zero, set_cons_succ, zero_add, add_zero, mul_one, zero_mul, m2, m3, m4]
  refine plan_q rfl rfl (qr_load1 rfl Try.underlying27 rfl ((hH.blk 0 rfl).cell letterC_nonce)) ?_
  try simp only [n0, n1, n2, n3, getD_cons_zero, getD_cons_succ, set_cons_zero, set_cons_succ, zero_add, add_zero, mul_one, zero_mul, m2, m3, m4]
  refine plan_p rfl rfl pr_move ?_
  try simp only [n0, n1, n2, n3, getD_cons_zero, getD_cons_succ, set_cons_zero, set_cons_succ, zero_add, add_zero, mul_one, zero_mul, m2, m3, m4]
  refine plan_p rfl rfl pr_move ?_
  try simp only [n0, n1, n2, n3, getD_cons_zero, getD_cons_succ, set_cons_zero, set_cons_succ, zero_add, add_zero, mul_one, zero_mul, m2, m3, m4]
  refine plan_callx rfl rfl hH cf26 (fun w' hH => Seal_calls _ _ _ (hP _) _ _ _ _ _ _ w' (hH.blk 2 rfl) (hH.blk 1 rfl) (hn.chg hH.chg) hl (Sl.cuth (ha.chg hH.chg) (by omega)) (Sl.cuth (hb.chg hH.chg) (by omega)) (by simp; omega)) rfl (fun _ _ _ h => by obtain ⟨_, _, _, _, hg, _⟩ := h; exact hg) ?_
  clear hH
  intro w23 v24 w25 hH hp26
  obtain ⟨o27, cap28, cs29, rfl, hg, hO30, hfr⟩ := hp26
  replace hH := hH.callown hg hfr
  clear hg hfr
  try simp only [n0, n1, n2, n3, getD_cons_zero, getD_cons_succ, set_cons_zero, set_cons_succ, zero_add, add_zero, mul_one, zero_mul, m2, m3, m4, m5, m6, m7, Value.cells, arr8_set, arr32_set, arr64_set, arrB_set] at hH ⊢
  try simp only [n0, n1, n2, n3, getD_cons_zero, getD_cons_succ, set_cons_zero, set_cons_succ, zero_add, add_zero, mul_one, zero_mul, m2, m3, m4]
  refine plan_p rfl rfl pr_move ?_
  try simp only [n0, n1, n2, n3, getD_cons_zero, getD_cons_succ, set_cons_zero, set_cons_succ, zero_add, add_zero, mul_one, zero_mul, m2, m3, m4]
  refine plan_p rfl rfl (pr_extract rfl rfl) ?_
  try simp only [n0, n1, n2, n3, getD_cons_zero, getD_cons_succ, set_cons_zero, set_cons_succ, zero_add, add_zero, mul_one, zero_mul, m2, m3, m4]
  refine plan_p rfl rfl (pr_extract rfl rfl) ?_
  try simp only [n0, n1, n2, n3, getD_cons_zero, getD_cons_succ, set_cons_zero, set_cons_succ, zero_add, add_zero, mul_one, zero_mul, m2, m3, m4]
  refine plan_p rfl rfl pr_assign ?_
  try simp only [n0, n1, n2, n3, getD_cons_zero, getD_cons_succ, set_cons_zero, set_cons_succ, zero_add, add_zero, mul_one, zero_mul, m2, m3, m4]
  refine plan_p rfl rfl pr_assign ?_
  try simp only [n0, n1, n2, n3, getD_cons_zero, getD_cons_succ, set_cons_zero, set_cons_succ, zero_add, add_zero, mul_one, zero_mul, m2, m3, m4]
  refine plan_nil hH ?_
  clear hH
  intro w31 hH
  refine hK22 _ _ ?_
  try clear hK22 K22
  refine wp_seq_k ?_
  intro K32 hK32
  refine wp_region_text [.p 0, .p 1, .q 2, .q 3, .p 4, .q 5, .p 6, .q 7, .q 8, .p 9, .p 10, .p 11, .p 12, .p 13] rfl ?_
  refine plan_p rfl rfl pr_move ?_
  try simp only [n0, n1, n2, n3, getD_cons_zero, getD_cons_succ, set_cons_zero, set_cons_succ, zero_add, add_zero, mul_one, zero_mul, m2, m3, m4]
  refine plan_p rfl rfl (pr_fieldAddr 16 rfl Try.underlying48 rfl rfl sz27) ?_
  try simp only [n0, n1, n2, n3, getD_cons_zero, getD_cons_succ, set_cons_zero, set_cons_succ, zero_add, add_zero, mul_one, zero_mul, m2, m3, m4]
  refine plan_q rfl rfl (qr_load1 rfl Try.underlying27 rfl ((hH.blk 0 rfl).cell letterC_nonce)) ?_
  try simp only [n0, n1, n2, n3, getD_cons_zero, getD_cons_succ, set_cons_zero, set_cons_succ, zero_add, add_zero, mul_one, zero_mul, m2, m3, m4]
  refine plan_q rfl rfl (qr_b2s (hn.chg hH.chg) rfl Try.underlying27 Try.underlying5 Try.underlying9) ?_
  try simp only [n0, n1, n2, n3, getD_cons_zero, getD_cons_succ, set_cons_zero, set_cons_succ, zero_add, add_zero, mul_one, zero_mul, m2, m3, m4]
  refine plan_p rfl rfl pr_move ?_
  try simp only [n0, n1, n2, n3, getD_cons_zero, getD_cons_succ, set_cons_zero, set_cons_succ, zero_add, add_zero, mul_one, zero_mul, m2, m3, m4]
  refine plan_q rfl rfl (qr_b2s (Sl.cuth (ha.chg hH.chg) (by omega)) rfl Try.underlying27 Try.underlying5 Try.underlying9) ?_
  try simp only [n0, n1, n2, n3, getD_cons_zero, getD_cons_succ, set_cons_zero, set_cons_succ, zero_add, add_zero, mul_one, zero_mul, m2, m3, m4]
  refine plan_p rfl rfl pr_move ?_
  try simp only [n0, n1, n2, n3, getD_cons_zero, getD_cons_succ, set_cons_zero, set_cons_succ, zero_add, add_zero, mul_one, zero_mul, m2, m3, m4]
  refine plan_q rfl rfl (qr_b2s (Sl.cuth (hb.chg hH.chg) (by omega)) rfl Try.underlying27 Try.underlying5 Try.underlying9) ?_
  try simp only [n0, n1, n2, n3, getD_cons_zero, getD_cons_succ, set_cons_zero, set_cons_succ, zero_add, add_zero, mul_one, zero_mul, m2, m3, m4]
  refine plan_q rfl rfl (qr_call cf31 (fun w' hw => refOpen_short _ _ _ _ w' (by rw [bsz]; exact hl) (by rw [bsz]; exact h16)) rfl) ?_
  try simp only [n0, n1, n2, n3, getD_cons_zero, getD_cons_succ, set_cons_zero, set_cons_succ, zero_add, add_zero, mul_one, zero_mul, m2, m3, m4]
  refine plan_p rfl rfl pr_move ?_
  try simp only [n0, n1, n2, n3, getD_cons_zero, getD_cons_succ, set_cons_zero, set_cons_succ, zero_add, add_zero, mul_one, zero_mul, m2, m3, m4]
  refine plan_p rfl rfl (pr_extract rfl rfl) ?_
  try simp only [n0, n1, n2, n3, getD_cons_zero, getD_cons_succ, set_cons_zero, set_cons_succ, zero_add, add_zero, mul_one, zero_mul, m2, m3, m4]
  refine plan_p rfl rfl (pr_extract rfl rfl) ?_
  try simp only [n0, n1, n2, n3, getD_cons_zero, getD_cons_succ, set_cons_zero, set_cons_succ, zero_add, add_zero, mul_one, zero_mul, m2, m3, m4]
  refine plan_p rfl rfl pr_assign ?_
  try simp only [n0, n1, n2, n3, getD_cons_zero, getD_cons_succ, set_cons_zero, set_cons_succ, zero_add, add_zero, mul_one, zero_mul, m2, m3, m4]
  refine plan_p rfl rfl pr_assign ?_
  try simp only [n0, n1, n2, n3, getD_cons_zero, getD_cons_succ, set_cons_zero, set_cons_succ, zero_add, add_zero, mul_one, zero_mul, m2, m3, m4]
  refine plan_nil hH ?_
  clear hH
  intro w33 hH
  refine hK32 _ _ ?_
  try clear hK32 K32
  refine wp_seq_k ?_
  intro K34 hK34
  refine wp_region_text [.p 0, .p 1, .q 2, .p 3, .p 4, .q 5, .p 6, .p 7, .p 8, .p 9, .p 10] rfl ?_
  refine plan_p rfl rfl pr_move ?_
  try simp only [n0, n1, n2, n3, getD_cons_zero, getD_cons_succ, set_cons_zero, set_cons_succ, zero_add, add_zero, mul_one, zero_mul, m2, m3, m4]
  refine plan_p rfl rfl (pr_fieldAddr 16 rfl Try.underlying48 rfl rfl sz27) ?_
  try simp only [n0, n1, n2, n3, getD_cons_zero, getD_cons_succ, set_cons_zero, set_cons_succ, zero_add, add_zero, mul_one, zero_mul, m2, m3, m4]
  refine plan_q rfl rfl (qr_load1 rfl Try.underlying27 rfl ((hH.blk 0 rfl).cell letterC_nonce)) ?_
  try simp only [n0, n1, n2, n3, getD_cons_zero, getD_cons_succ, set_cons_zero, set_cons_succ, zero_add, add_zero, mul_one, zero_mul, m2, m3, m4]
  refine plan_p rfl rfl pr_move ?_
  try simp only [n0, n1, n2, n3, getD_cons_zero, getD_cons_succ, set_cons_zero, set_cons_succ, zero_add, add_zero, mul_one, zero_mul, m2, m3, m4]
  refine plan_p rfl rfl pr_move ?_
  try simp only [n0, n1, n2, n3, getD_cons_zero, getD_cons_succ, set_cons_zero, set_cons_succ, zero_add, add_zero, mul_one, zero_mul, m2, m3, m4]
  refine plan_q rfl rfl (qr_call cf32 (fun w' hw => Open_short _ _ _ _ _ _ w' ((hn.chg hH.chg).chg hw) hl ((Sl.cuth (hb.chg hH.chg) (by omega)).chg hw) h16) rfl) ?_
  try simp only [n0, n1, n2, n3, getD_cons_zero, getD_cons_succ, set_cons_zero, set_cons_succ, zero_add, add_zero, mul_one, zero_mul, m2, m3, m4]
  refine plan_p rfl rfl pr_move ?_
  try simp only [n0, n1, n2, n3, getD_cons_zero, getD_cons_succ, set_cons_zero, set_cons_succ, zero_add, add_zero, mul_one, zero_mul, m2, m3, m4]
  refine plan_p rfl rfl (pr_extract rfl rfl) ?_
  try simp only [n0, n1, n2, n3, getD_cons_zero, getD_cons_succ, set_cons_zero, set_cons_succ, zero_add, add_zero, mul_one, zero_mul, m2, m3, m4]
  refine plan_p rfl rfl (pr_extract rfl rfl) ?_
  try simp only [n0, n1, n2, n3, getD_cons_zero, getD_cons_succ, set_cons_zero, set_cons_succ, zero_add, add_zero, mul_one, zero_mul, m2, m3, m4]
  refine plan_p rfl rfl pr_assign ?_
  try simp only [n0, n1, n2, n3, getD_cons_zero, getD_cons_succ, set_cons_zero, set_cons_succ, zero_add, add_zero, mul_one, zero_mul, m2, m3, m4]
  refine plan_p rfl rfl pr_assign ?_
  try simp only [n0, n1, n2, n3, getD_cons_zero, getD_cons_succ, set_cons_zero, set_cons_succ, zero_add, add_zero, mul_one, zero_mul, m2, m3, m4]
  refine plan_nil hH ?_
  clear hH
  intro w35 hH
  refine hK34 _ _ ?_
  try clear hK34 K34
  refine wp_seq_k ?_
  intro K36 hK36
  refine wp_region_text [.p 0, .q 1, .p 2, .p 3, .p 4, .p 5, .p 6, .p 7, .p 8, .p 9, .p 10, .q 11, .p 12, .p 13, .p 14, .p 15, .p 16, .p 17, .p 18, .p 19, .p 20] rfl ?_
  refine plan_p rfl rfl pr_move ?_
  try simp only [n0, n1, n2, n3, getD_cons_zero, getD_cons_succ, set_cons_zero, set_cons_succ, zero_add, add_zero, mul_one, zero_mul, m2, m3, m4]
  refine plan_q rfl rfl (qr_b2s (OwnC.sl hH 3 rfl hO30) rfl Try.underlying27 Try.underlying5 Try.underlying9) ?_
  try simp only [n0, n1, n2, n3, getD_cons_zero, getD_cons_succ, set_cons_zero, set_cons_succ, zero_add, add_zero, mul_one, zero_mul, m2, m3, m4]
  refine plan_p rfl rfl pr_move ?_
  try simp only [n0, n1, n2, n3, getD_cons_zero, getD_cons_succ, set_cons_zero, set_cons_succ, zero_add, add_zero, mul_one, zero_mul, m2, m3, m4]
  refine plan_p rfl rfl (pr_bin rfl rfl bin_eql_s) ?_
  try simp only [n0, n1, n2, n3, getD_cons_zero, getD_cons_succ, set_cons_zero, set_cons_succ, zero_add, add_zero, mul_one, zero_mul, m2, m3, m4]
  refine plan_p (v := BV true) rfl rfl (pr_move_v (by show BV (_ == _) = _; exact congrArg BV (beq_self_eq_true _))) ?_
  try simp only [n0, n1, n2, n3, getD_cons_zero, getD_cons_succ, set_cons_zero, set_cons_succ, zero_add, add_zero, mul_one, zero_mul, m2, m3, m4]
  refine plan_p rfl rfl pr_move ?_
  try simp only [n0, n1, n2, n3, getD_cons_zero, getD_cons_succ, set_cons_zero, set_cons_succ, zero_add, add_zero, mul_one, zero_mul, m2, m3, m4]
  refine plan_p rfl rfl pr_move ?_
  try simp only [n0, n1, n2, n3, getD_cons_zero, getD_cons_succ, set_cons_zero, set_cons_succ, zero_add, add_zero, mul_one, zero_mul, m2, m3, m4]
  refine plan_p rfl rfl (pr_bin rfl rfl (by first | exact bin_eql_n  | exact bin_eql_i)) ?_
  try simp only [n0, n1, n2, n3, getD_cons_zero, getD_cons_succ, set_cons_zero, set_cons_succ, zero_add, add_zero, mul_one, zero_mul, m2, m3, m4]
  refine plan_p rfl rfl (pr_pick_t rfl) ?_
  try simp only [n0, n1, n2, n3, getD_cons_zero, getD_cons_succ, set_cons_zero, set_cons_succ, zero_add, add_zero, mul_one, zero_mul, m2, m3, m4]
  refine plan_p (v := BV true) rfl rfl (pr_move_v rfl) ?_
  try simp only [n0, n1, n2, n3, getD_cons_zero, getD_cons_succ, set_cons_zero, set_cons_succ, zero_add, add_zero, mul_one, zero_mul, m2, m3, m4]
  refine plan_p rfl rfl pr_move ?_
  try simp only [n0, n1, n2, n3, getD_cons_zero, getD_cons_succ, set_cons_zero, set_cons_succ, zero_add, add_zero, mul_one, zero_mul, m2, m3, m4]
  refine plan_q rfl rfl (qr_b2s Sl.nil rfl Try.underlying27 Try.underlying5 Try.underlying9) ?_
  try simp only [n0, n1, n2, n3, getD_cons_zero, getD_cons_succ, set_cons_zero, set_cons_succ, zero_add, add_zero, mul_one, zero_mul, m2, m3, m4]
  refine plan_p rfl rfl pr_move ?_
  try simp only [n0, n1, n2, n3, getD_cons_zero, getD_cons_succ, set_cons_zero, set_cons_succ, zero_add, add_zero, mul_one, zero_mul, m2, m3, m4]
  refine plan_p rfl rfl (pr_bin rfl rfl bin_eql_s) ?_
  try simp only [n0, n1, n2, n3, getD_cons_zero, getD_cons_succ, set_cons_zero, set_cons_succ, zero_add, add_zero, mul_one, zero_mul, m2, m3, m4]
  refine plan_p rfl rfl (pr_pick_t rfl) ?_
  try simp only [n0, n1, n2, n3, getD_cons_zero, getD_cons_succ, set_cons_zero, set_cons_succ, zero_add, add_zero, mul_one, zero_mul, m2, m3, m4]
  refine plan_p (v := BV true) rfl rfl (pr_move_v (by show BV (_ == _) = _; exact congrArg BV (beq_self_eq_true _))) ?_
  try simp only [n0, n1, n2, n3, getD_cons_zero, getD_cons_succ, set_cons_zero, set_cons_succ, zero_add, add_zero, mul_one, zero_mul, m2, m3, m4]
  refine plan_p rfl rfl pr_move ?_
  try simp only [n0, n1, n2, n3, getD_cons_zero, getD_cons_succ, set_cons_zero, set_cons_succ, zero_add, add_zero, mul_one, zero_mul, m2, m3, m4]
  refine plan_p rfl rfl pr_move ?_
  try simp only [n0, n1, n2, n3, getD_cons_zero, getD_cons_succ, set_cons_zero, set_cons_succ, zero_add, add_zero, mul_one, zero_mul, m2, m3, m4]
  refine plan_p rfl rfl (pr_bin rfl rfl (by first | exact bin_eql_n  | exact bin_eql_i)) ?_
  try simp only [n0, n1, n2, n3, getD_cons_zero, getD_cons_succ, set_cons_zero, set_cons_succ, zero_add, add_zero, mul_one, zero_mul, m2, m3, m4]
  refine plan_p rfl rfl (pr_pick_t rfl) ?_
  try simp only [n0, n1, n2, n3, getD_cons_zero, getD_cons_succ, set_cons_zero, set_cons_succ, zero_add, add_zero, mul_one, zero_mul, m2, m3, m4]
  refine plan_p rfl rfl pr_assign ?_
  try simp only [n0, n1, n2, n3, getD_cons_zero, getD_cons_succ, set_cons_zero, set_cons_succ, zero_add, add_zero, mul_one, zero_mul, m2, m3, m4]
  refine plan_nil hH ?_
  clear hH
  intro w37 hH
  refine hK36 _ _ ?_
  try clear hK36 K36
  refine wp_ret ?_
  try simp only [Exit.then, Exit.inBlock, ↓reduceIte, Nat.reduceEqDiff]
  refine BP.ret1 rfl rfl ?_
  exact ⟨rfl, hH.chg⟩

theorem gcmseal_wrong (f : Nat → UInt8) (nv av bv : Value) (nl al bl : List UInt8) (w : World) (hn : Sl w nv nl) (ha : Sl w av al) (hb : Sl w bv bl) (hnl : nl.length ≤ reachBytes) (hl : nl.length = 12) (h16 : 16 ≤ (bl.take (min bl.length 120)).length) (he : sealL (kexp fun i => ((List.range 16).map fun i => f i).getD i 0) (hP (kexp fun i => ((List.range 16).map fun i => f i).getD i 0)) nl (al.take (min al.length 120)) ((bl.take (min bl.length 120)).take ((bl.take (min bl.length 120)).length - 16)) ≠ (bl.take (min bl.length 120)).drop ((bl.take (min bl.length 120)).length - 16)) : Ret Try.prog 11 #[.agg (letterC f nv av bv)] w fun v w' => v = BV true ∧ Chg [] w w' := by
  refine Ret.enter Try.func11 rfl ?_
  simp only [Try.ntmps11, List.size_toArray, List.length_cons, List.length_nil, Nat.reduceAdd, Nat.reduceSub, frame_enter, List.replicate_succ, List.replicate_zero, List.nil_append, List.cons_append]
  have hH := Hp.start [] w
  refine wp_seq_k ?_
  intro K1 hK1
  refine wp_region_text [.x 0, .p 1] rfl ?_
  refine plan_box rfl rfl hH rfl ?_
  clear hH
  intro b2 w3 hH
  try simp only [n0, n1, n2, n3, getD_cons_zero, getD_cons_succ, set_cons_zero, set_cons_succ, zero_add, add_zero, mul_one, zero_mul, m2, m3, m4, m5, m6, m7, Value.cells, arr8_set, arr32_set, arr64_set, arrB_set] at hH ⊢
  refine plan_p rfl rfl pr_assign ?_
  try simp only [n0, n1, n2, n3, getD_cons_zero, getD_cons_succ, set_cons_zero, set_cons_succ, zero_add, add_zero, mul_one, zero_mul, m2, m3, m4]
  refine plan_nil hH ?_
  clear hH
  intro w4 hH
  refine hK1 _ _ ?_
  try clear hK1 K1
  refine wp_seq_k ?_
  intro K5 hK5
  refine wp_region_text [.p 0, .p 1, .x 2, .p 3, .p 4, .p 5, .p 6, .p 7] rfl ?_
  refine plan_p rfl rfl (pr_fieldAddr 0 rfl Try.underlying48 rfl rfl sz22) ?_
  try simp only [n0, n1, n2, n3, getD_cons_zero, getD_cons_succ, set_cons_zero, set_cons_succ, zero_add, add_zero, mul_one, zero_mul, m2, m3, m4]
  refine plan_p rfl rfl (pr_slice_arr_all rfl Try.underlying22 sz5) ?_
  try simp only [n0, n1, n2, n3, getD_cons_zero, getD_cons_succ, set_cons_zero, set_cons_succ, zero_add, add_zero, mul_one, zero_mul, m2, m3, m4]
  try simp only [Nat.mul_one, Nat.zero_add, Nat.add_sub_cancel_left]
  refine plan_callx rfl rfl hH cf23 (fun w' hH => gnew_calls _ _ w' (letter_key (hH.blk 0 rfl)) (by simp)) rfl (fun _ _ _ h => by obtain ⟨_, _, _, hg, _⟩ := h; exact hg) ?_
  clear hH
  intro w6 v7 w8 hH hp9
  obtain ⟨b10, b11, rfl, hg, hfc, hbc, hfx, hbx, hne⟩ := hp9
  replace hH := hH.callnew2 hg hbc hfc hbx hfx hne
  clear hg hfc hbc hfx hbx hne
  try simp only [n0, n1, n2, n3, getD_cons_zero, getD_cons_succ, set_cons_zero, set_cons_succ, zero_add, add_zero, mul_one, zero_mul, m2, m3, m4, m5, m6, m7, Value.cells, arr8_set, arr32_set, arr64_set, arrB_set] at hH ⊢
  try simp only [n0, n1, n2, n3, getD_cons_zero, getD_cons_succ, set_cons_zero, set_cons_succ, zero_add, add_zero, mul_one, zero_mul, m2, m3, m4]
  refine plan_p rfl rfl pr_move ?_
  try simp only [n0, n1, n2, n3, getD_cons_zero, getD_cons_succ, set_cons_zero, set_cons_succ, zero_add, add_zero, mul_one, zero_mul, m2, m3, m4]
  refine plan_p rfl rfl (pr_extract rfl rfl) ?_
  try simp only [n0, n1, n2, n3, getD_cons_zero, getD_cons_succ, set_cons_zero, set_cons_succ, zero_add, add_zero, mul_one, zero_mul, m2, m3, m4]
  refine plan_p rfl rfl (pr_extract rfl rfl) ?_
  try simp only [n0, n1, n2, n3, getD_cons_zero, getD_cons_succ, set_cons_zero, set_cons_succ, zero_add, add_zero, mul_one, zero_mul, m2, m3, m4]
  refine plan_p rfl rfl pr_assign ?_
  try simp only [n0, n1, n2, n3, getD_cons_zero, getD_cons_succ, set_cons_zero, set_cons_succ, zero_add, add_zero, mul_one, zero_mul, m2, m3, m4]
  refine plan_p rfl rfl pr_assign ?_
  try simp only [n0, n1, n2, n3, getD_cons_zero, getD_cons_succ, set_cons_zero, set_cons_succ, zero_add, add_zero, mul_one, zero_mul, m2, m3, m4]
  refine plan_nil hH ?_
  clear hH
  intro w12 hH
  refine hK5 _ _ ?_
  try clear hK5 K5
  refine wp_seq_k ?_
  intro K13 hK13
  refine wp_region_text [.q 0, .q 1, .p 2, .p 3, .p 4, .p 5, .p 6] rfl ?_
  refine plan_q rfl rfl (qr_call cf29 (fun w' hw => none4_calls w') rfl) ?_
  try simp only [n0, n1, n2, n3, getD_cons_zero, getD_cons_succ, set_cons_zero, set_cons_succ, zero_add, add_zero, mul_one, zero_mul, m2, m3, m4]
  refine plan_q rfl rfl (qr_call cf26 (fun w' hw => Seal_nil _ _ _ _ w' Sl.nil (by simp)) rfl) ?_
  try simp only [n0, n1, n2, n3, getD_cons_zero, getD_cons_succ, set_cons_zero, set_cons_succ, zero_add, add_zero, mul_one, zero_mul, m2, m3, m4]
  refine plan_p rfl rfl pr_move ?_
  try simp only [n0, n1, n2, n3, getD_cons_zero, getD_cons_succ, set_cons_zero, set_cons_succ, zero_add, add_zero, mul_one, zero_mul, m2, m3, m4]
  refine plan_p rfl rfl (pr_extract rfl rfl) ?_
  try simp only [n0, n1, n2, n3, getD_cons_zero, getD_cons_succ, set_cons_zero, set_cons_succ, zero_add, add_zero, mul_one, zero_mul, m2, m3, m4]
  refine plan_p rfl rfl (pr_extract rfl rfl) ?_
  try simp only [n0, n1, n2, n3, getD_cons_zero, getD_cons_succ, set_cons_zero, set_cons_succ, zero_add, add_zero, mul_one, zero_mul, m2, m3, m4]
  refine plan_p rfl rfl pr_assign ?_
  try simp only [n0, n1, n2, n3, getD_cons_zero, getD_cons_succ, set_cons_zero, set_cons_succ, zero_add, add_zero, mul_one, zero_mul, m2, m3, m4]
  refine plan_p rfl rfl pr_assign ?_
  try simp only [n0, n1, n2, n3, getD_cons_zero, getD_cons_succ, set_cons_zero, set_cons_succ, zero_add, add_zero, mul_one, zero_mul, m2, m3, m4]
  refine plan_nil hH ?_
  clear hH
  intro w14 hH
  refine hK13 _ _ ?_
  try clear hK13 K13
  refine wp_seq_k ?_
  intro K15 hK15
  refine wp_seq_k ?_
  intro K16 hK16
  refine wp_region_text [.q 0, .p 1, .p 2, .p 3, .p 4, .p 5, .p 6, .p 7, .p 8, .p 9] rfl ?_
  refine plan_q rfl rfl (qr_call cf24 (fun w' hw => sealed_calls w') rfl) ?_
  try simp only [n0, n1, n2, n3, getD_cons_zero, getD_cons_succ, set_cons_zero, set_cons_succ, zero_add, add_zero, mul_one, zero_mul, m2, m3, m4]
  refine plan_p rfl rfl (pr_not rfl) ?_
  try simp only [n0, n1, n2, n3, getD_cons_zero, getD_cons_succ, set_cons_zero, set_cons_succ, zero_add, add_zero, mul_one, zero_mul, m2, m3, m4]
  refine plan_p (v := BV false) rfl rfl (pr_move_v rfl) ?_
  try simp only [n0, n1, n2, n3, getD_cons_zero, getD_cons_succ, set_cons_zero, set_cons_succ, zero_add, add_zero, mul_one, zero_mul, m2, m3, m4]
  refine plan_p rfl rfl pr_move ?_
  try simp only [n0, n1, n2, n3, getD_cons_zero, getD_cons_succ, set_cons_zero, set_cons_succ, zero_add, add_zero, mul_one, zero_mul, m2, m3, m4]
  refine plan_p rfl rfl (pr_bin rfl rfl (by first | exact bin_neq_n (n := 0)  | exact bin_neq_i)) ?_
  try simp only [n0, n1, n2, n3, getD_cons_zero, getD_cons_succ, set_cons_zero, set_cons_succ, zero_add, add_zero, mul_one, zero_mul, m2, m3, m4]
  refine plan_p rfl rfl (pr_pick_f rfl) ?_
  try simp only [n0, n1, n2, n3, getD_cons_zero, getD_cons_succ, set_cons_zero, set_cons_succ, zero_add, add_zero, mul_one, zero_mul, m2, m3, m4]
  refine plan_p (v := BV false) rfl rfl (pr_move_v rfl) ?_
  try simp only [n0, n1, n2, n3, getD_cons_zero, getD_cons_succ, set_cons_zero, set_cons_succ, zero_add, add_zero, mul_one, zero_mul, m2, m3, m4]
  refine plan_p rfl rfl pr_move ?_
  try simp only [n0, n1, n2, n3, getD_cons_zero, getD_cons_succ, set_cons_zero, set_cons_succ, zero_add, add_zero, mul_one, zero_mul, m2, m3, m4]
  refine plan_p rfl rfl (pr_bin rfl rfl (by first | exact bin_neq_n (n := 1)  | exact bin_neq_i)) ?_
  try simp only [n0, n1, n2, n3, getD_cons_zero, getD_cons_succ, set_cons_zero, set_cons_succ, zero_add, add_zero, mul_one, zero_mul, m2, m3, m4]
  refine plan_p rfl rfl (pr_pick_f rfl) ?_
  try simp only [n0, n1, n2, n3, getD_cons_zero, getD_cons_succ, set_cons_zero, set_cons_succ, zero_add, add_zero, mul_one, zero_mul, m2, m3, m4]
  refine plan_nil hH ?_
  clear hH
  intro w17 hH
  refine hK16 _ _ ?_
  try clear hK16 K16
  refine wp_cond_false rfl ?_
  refine wp_skip ?_
  refine hK15 _ _ ?_
  try clear hK15 K15
  refine wp_seq_k ?_
  intro K18 hK18
  refine wp_region_plan [.p 0, .p 1, .p 3, .p 6, .q 2, .q 4, .q 5, .q 7, .q 8, .p 9, .p 10, .p 11] (by kernel_rfl) (by kernel_rfl) (by kernel_rfl) (by kernel_rfl) (fun _ _ _ _ _ h => by first | exact h | exact BP.panic _ _ _ _ _ h) ?_
  refine plan_p rfl rfl (pr_fieldAddr 0 rfl Try.underlying48 rfl rfl sz22) ?_
  try simp only [n0, n1, n2, n3, getD_cons_zero, getD_cons_succ, set_cons_zero, set_cons_succ, zero_add, add_zero, mul_one, zero_mul, m2, m3, m4]
  refine plan_p rfl rfl (pr_slice_arr_all rfl Try.underlying22 sz5) ?_
  try simp only [n0, n1, n2, n3, getD_cons_zero, getD_cons_succ, set_cons_zero, set_cons_succ, zero_add, add_zero, mul_one, zero_mul, m2, m3, m4]
  try simp only [Nat.mul_one, Nat.zero_add, Nat.add_sub_cancel_left]
  refine plan_p rfl rfl (pr_fieldAddr 17 rfl Try.underlying48 rfl rfl sz27) ?_
  try simp only [n0, n1, n2, n3, getD_cons_zero, getD_cons_succ, set_cons_zero, set_cons_succ, zero_add, add_zero, mul_one, zero_mul, m2, m3, m4]
  refine plan_p rfl rfl (pr_fieldAddr 18 rfl Try.underlying48 rfl rfl sz27) ?_
  try simp only [n0, n1, n2, n3, getD_cons_zero, getD_cons_succ, set_cons_zero, set_cons_succ, zero_add, add_zero, mul_one, zero_mul, m2, m3, m4]
  refine plan_q rfl rfl (qr_b2s (letter_key (hH.blk 0 rfl)) rfl Try.underlying27 Try.underlying5 Try.underlying9) ?_
  try simp only [n0, n1, n2, n3, getD_cons_zero, getD_cons_succ, set_cons_zero, set_cons_succ, zero_add, add_zero, mul_one, zero_mul, m2, m3, m4]
  refine plan_q rfl rfl (qr_load1 rfl Try.underlying27 rfl ((hH.blk 0 rfl).cell letterC_side)) ?_
  try simp only [n0, n1, n2, n3, getD_cons_zero, getD_cons_succ, set_cons_zero, set_cons_succ, zero_add, add_zero, mul_one, zero_mul, m2, m3, m4]
  refine plan_q rfl rfl (qr_call cf25 (fun w' hw => cut_calls _ _ w' ((ha.chg hH.chg).chg hw)) rfl) ?_
  try simp only [n0, n1, n2, n3, getD_cons_zero, getD_cons_succ, set_cons_zero, set_cons_succ, zero_add, add_zero, mul_one, zero_mul, m2, m3, m4]
  refine plan_q rfl rfl (qr_load1 rfl Try.underlying27 rfl ((hH.blk 0 rfl).cell letterC_bytes)) ?_
  try simp only [n0, n1, n2, n3, getD_cons_zero, getD_cons_succ, set_cons_zero, set_cons_succ, zero_add, add_zero, mul_one, zero_mul, m2, m3, m4]
  refine plan_q rfl rfl (qr_call cf25 (fun w' hw => cut_calls _ _ w' ((hb.chg hH.chg).chg hw)) rfl) ?_
  try simp only [n0, n1, n2, n3, getD_cons_zero, getD_cons_succ, set_cons_zero, set_cons_succ, zero_add, add_zero, mul_one, zero_mul, m2, m3, m4]
  refine plan_p rfl rfl pr_assign ?_
  try simp only [n0, n1, n2, n3, getD_cons_zero, getD_cons_succ, set_cons_zero, set_cons_succ, zero_add, add_zero, mul_one, zero_mul, m2, m3, m4]
  refine plan_p rfl rfl pr_assign ?_
  try simp only [n0, n1, n2, n3, getD_cons_zero, getD_cons_succ, set_cons_zero, set_cons_succ, zero_add, add_zero, mul_one, zero_mul, m2, m3, m4]
  refine plan_p rfl rfl pr_assign ?_
  try simp only [n0, n1, n2, n3, getD_cons_zero, getD_cons_succ, set_cons_zero, set_cons_succ, zero_add, add_zero, mul_one, zero_mul, m2, m3, m4]
  refine plan_nil hH ?_
  clear hH
  intro w19 hH
  refine hK18 _ _ ?_
  try clear hK18 K18
  refine wp_seq_k ?_
  intro K20 hK20
  refine wp_region_text [.p 0, .p 1, .q 2, .q 3, .p 4, .q 5, .p 6, .q 7, .q 8, .p 9, .p 10, .p 11, .p 12, .p 13] rfl ?_
  refine plan_p rfl rfl pr_move ?_
  try simp only [n0, n1, n2, n3, getD_cons_zero, getD_cons_succ, set_cons_zero, set_cons_succ, zero_add, add_zero, mul_one, zero_mul, m2, m3, m4]
  refine plan_p rfl rfl (pr_fieldAddr 16 rfl Try.underlying48 rfl rfl sz27) ?_
  try simp only [n0, n1, n2, n3, getD_cons_zero, getD_cons_succ, set_cons_zero, set_cons_succ, zero_add, add_zero, mul_one, zero_mul, m2, m3, m4]
  refine plan_q rfl rfl (qr_load1 rfl Try.underlying27 rfl ((hH.blk 0 rfl).cell letterC_nonce)) ?_
  try simp only [n0, n1, n2, n3, getD_cons_zero, getD_cons_succ, set_cons_zero, set_cons_succ, zero_add, add_zero, mul_one, zero_mul, m2, m3, m4]
  refine plan_q rfl rfl (qr_b2s (hn.chg hH.chg) rfl Try.underlying27 Try.underlying5 Try.underlying9) ?_
  try simp only [n0, n1, n2, n3, getD_cons_zero, getD_cons_succ, set_cons_zero, set_cons_succ, zero_add, add_zero, mul_one, zero_mul, m2, m3, m4]
  refine plan_p rfl rfl pr_move ?_
  try simp only [n0, n1, n2, n3, getD_cons_zero, getD_cons_succ, set_cons_zero, set_cons_succ, zero_add, add_zero, mul_one, zero_mul, m2, m3, m4]
  refine plan_q rfl rfl (qr_b2s (Sl.cuth (ha.chg hH.chg) (by omega)) rfl Try.underlying27 Try.underlying5 Try.underlying9) ?_
  try simp only [n0, n1, n2, n3, getD_cons_zero, getD_cons_succ, set_cons_zero, set_cons_succ, zero_add, add_zero, mul_one, zero_mul, m2, m3, m4]
  refine plan_p rfl rfl pr_move ?_
  try simp only [n0, n1, n2, n3, getD_cons_zero, getD_cons_succ, set_cons_zero, set_cons_succ, zero_add, add_zero, mul_one, zero_mul, m2, m3, m4]
  refine plan_q rfl rfl (qr_b2s (Sl.cuth (hb.chg hH.chg) (by omega)) rfl Try.underlying27 Try.underlying5 Try.underlying9) ?_
  try simp only [n0, n1, n2, n3, getD_cons_zero, getD_cons_succ, set_cons_zero, set_cons_succ, zero_add, add_zero, mul_one, zero_mul, m2, m3, m4]
  refine plan_q rfl rfl (qr_call cf30 (fun w' hw => refSeal_calls ⟨((List.range 16).map fun i => f i).toArray⟩ ⟨nl.toArray⟩ ⟨(al.take (min al.length 120)).toArray⟩ ⟨(bl.take (min bl.length 120)).toArray⟩ w' (by simp) (by rw [bsz]; exact hl) (by rw [bsz]; simp; omega) (by rw [bsz]; simp; omega)) rfl) ?_
  try simp only [n0, n1, n2, n3, getD_cons_zero, getD_cons_succ, set_cons_zero, set_cons_succ, zero_add, add_zero, mul_one, zero_mul, m2, m3, m4]
  refine plan_p rfl rfl pr_move ?_
  try simp only [n0, n1, n2, n3, getD_cons_zero, getD_cons_succ, set_cons_zero, set_cons_succ, zero_add, add_zero, mul_one, zero_mul, m2, m3, m4]
  refine plan_p rfl rfl (pr_extract rfl rfl) ?_
  try simp only [n0, n1, n2, n3, getD_cons_zero, getD_cons_succ, set_cons_zero, set_cons_succ, zero_add, add_zero, mul_one, zero_mul, m2, m3, m4]
  refine plan_p rfl rfl (pr_extract rfl rfl) ?_
  try simp only [n0, n1, n2, n3, getD_cons_zero, getD_cons_succ, set_cons_zero, set_cons_succ, zero_add, add_zero, mul_one, zero_mul, m2, m3, m4]
  refine plan_p rfl rfl pr_assign ?_
  try simp only [n0, n1, n2, n3, getD_cons_zero, getD_cons_succ, set_cons_zero, set_cons_succ, zero_add, add_zero, mul_one, zero_mul, m2, m3, m4]
  refine plan_p rfl rfl pr_assign ?_
  try simp only [n0, n1, n2, n3, getD_cons_zero, getD_cons_succ, set_cons_zero, set_cons_succ, zero_add, add_zero, mul_one, zero_mul, m2, m3, m4]
  refine plan_nil hH ?_
  clear hH
  intro w21 hH
  refine hK20 _ _ ?_
  try clear hK20 K20
  refine wp_seq_k ?_
  intro K22 hK22
  refine wp_region_text [.p 0, .p 1, .q 2, .p 3, .p 4, .x 5, .p 6, .p 7, .p 8, .p 9, .p 10] rfl ?_
  refine plan_p rfl rfl pr_move ?_
  try simp only [n0, n1, n2, n3, getD_cons_zero, getD_cons_succ, set_cons_zero, set_cons_succ, zero_add, add_zero, mul_one, zero_mul, m2, m3, m4]
  refine plan_p rfl rfl (pr_fieldAddr 16 rfl Try.underlying48 rfl rfl sz27) ?_
  try simp only [n0, n1, n2, n3, getD_cons_zero, getD_cons_succ, set_cons_zero, set_cons_succ, zero_add, add_zero, mul_one, zero_mul, m2, m3, m4]
  refine plan_q rfl rfl (qr_load1 rfl Try.underlying27 rfl ((hH.blk 0 rfl).cell letterC_nonce)) ?_
  try simp only [n0, n1, n2, n3, getD_cons_zero, getD_cons_succ, set_cons_zero, set_cons_succ, zero_add, add_zero, mul_one, zero_mul, m2, m3, m4]
  refine plan_p rfl rfl pr_move ?_
  try simp only [n0, n1, n2, n3, getD_cons_zero, getD_cons_succ, set_cons_zero, set_cons_succ, zero_add, add_zero, mul_one, zero_mul, m2, m3, m4]
  refine plan_p rfl rfl pr_move ?_
  try simp only [n0, n1, n2, n3, getD_cons_zero, getD_cons_succ, set_cons_zero, set_cons_succ, zero_add, add_zero, mul_one, zero_mul, m2, m3, m4]
  refine plan_callx rfl rfl hH cf26 (fun w' hH => Seal_calls _ _ _ (hP _) _ _ _ _ _ _ w' (hH.blk 2 rfl) (hH.blk 1 rfl) (hn.chg hH.chg) hl (Sl.cuth (ha.chg hH.chg) (by omega)) (Sl.cuth (hb.chg hH.chg) (by omega)) (by simp; omega)) rfl (fun _ _ _ h => by obtain ⟨_, _, _, _, hg, _⟩ := h; exact hg) ?_
  clear hH
  intro w23 v24 w25 hH hp26
  obtain ⟨o27, cap28, cs29, rfl, hg, hO30, hfr⟩ := hp26
  replace hH := hH.callown hg hfr
  clear hg hfr
  try simp only [n0, n1, n2, n3, getD_cons_zero, getD_cons_succ, set_cons_zero, set_cons_succ, zero_add, add_zero, mul_one, zero_mul, m2, m3, m4, m5, m6, m7, Value.cells, arr8_set, arr32_set, arr64_set, arrB_set] at hH ⊢
  try simp only [n0, n1, n2, n3, getD_cons_zero, getD_cons_succ, set_cons_zero, set_cons_succ, zero_add, add_zero, mul_one, zero_mul, m2, m3, m4]
  refine plan_p rfl rfl pr_move ?_
  try simp only [n0, n1, n2, n3, getD_cons_zero, getD_cons_succ, set_cons_zero, set_cons_succ, zero_add, add_zero, mul_one, zero_mul, m2, m3, m4]
  refine plan_p rfl rfl (pr_extract rfl rfl) ?_
  try simp only [n0, n1, n2, n3, getD_cons_zero, getD_cons_succ, set_cons_zero, set_cons_succ, zero_add, add_zero, mul_one, zero_mul, m2, m3, m4]
  refine plan_p rfl rfl (pr_extract rfl rfl) ?_
  try simp only [n0, n1, n2, n3, getD_cons_zero, getD_cons_succ, set_cons_zero, set_cons_succ, zero_add, add_zero, mul_one, zero_mul, m2, m3, m4]
  refine plan_p rfl rfl pr_assign ?_
  try simp only [n0, n1, n2, n3, getD_cons_zero, getD_cons_succ, set_cons_zero, set_cons_succ, zero_add, add_zero, mul_one, zero_mul, m2, m3, m4]
  refine plan_p rfl rfl pr_assign ?_
  try simp only [n0, n1, n2, n3, getD_cons_zero, getD_cons_succ, set_cons_zero, set_cons_succ, zero_add, add_zero, mul_one, zero_mul, m2, m3, m4]
  refine plan_nil hH ?_
  clear hH
  intro w31 hH
  refine hK22 _ _ ?_
  try clear hK22 K22
  refine wp_seq_k ?_
  intro K32 hK32
  refine wp_region_text [.p 0, .p 1, .q 2, .q 3, .p 4, .q 5, .p 6, .q 7, .q 8, .p 9, .p 10, .p 11, .p 12, .p 13] rfl ?_
  refine plan_p rfl rfl pr_move ?_
  try simp only [n0, n1, n2, n3, getD_cons_zero, getD_cons_succ, set_cons_zero, set_cons_succ, zero_add, add_zero, mul_one, zero_mul, m2, m3, m4]
  refine plan_p rfl rfl (pr_fieldAddr 16 rfl Try.underlying48 rfl rfl sz27) ?_
  try simp only [n0, n1, n2, n3, getD_cons_zero, getD_cons_succ, set_cons_zero, set_cons_succ, zero_add, add_zero, mul_one, zero_mul, m2, m3, m4]
  refine plan_q rfl rfl (qr_load1 rfl Try.underlying27 rfl ((hH.blk 0 rfl).cell letterC_nonce)) ?_
  try simp only [n0, n1, n2, n3, getD_cons_zero, getD_cons_succ, set_cons_zero, set_cons_succ, zero_add, add_zero, mul_one, zero_mul, m2, m3, m4]
  refine plan_q rfl rfl (qr_b2s (hn.chg hH.chg) rfl Try.underlying27 Try.underlying5 Try.underlying9) ?_
  try simp only [n0, n1, n2, n3, getD_cons_zero, getD_cons_succ, set_cons_zero, set_cons_succ, zero_add, add_zero, mul_one, zero_mul, m2, m3, m4]
  refine plan_p rfl rfl pr_move ?_
  try simp only [n0, n1, n2, n3, getD_cons_zero, getD_cons_succ, set_cons_zero, set_cons_succ, zero_add, add_zero, mul_one, zero_mul, m2, m3, m4]
  refine plan_q rfl rfl (qr_b2s (Sl.cuth (ha.chg hH.chg) (by omega)) rfl Try.underlying27 Try.underlying5 Try.underlying9) ?_
  try simp only [n0, n1, n2, n3, getD_cons_zero, getD_cons_succ, set_cons_zero, set_cons_succ, zero_add, add_zero, mul_one, zero_mul, m2, m3, m4]
  refine plan_p rfl rfl pr_move ?_
  try simp only [n0, n1, n2, n3, getD_cons_zero, getD_cons_succ, set_cons_zero, set_cons_succ, zero_add, add_zero, mul_one, zero_mul, m2, m3, m4]
  refine plan_q rfl rfl (qr_b2s (Sl.cuth (hb.chg hH.chg) (by omega)) rfl Try.underlying27 Try.underlying5 Try.underlying9) ?_
  try simp only [n0, n1, n2, n3, getD_cons_zero, getD_cons_succ, set_cons_zero, set_cons_succ, zero_add, add_zero, mul_one, zero_mul, m2, m3, m4]
  refine plan_q rfl rfl (qr_call cf31 (fun w' hw => refOpen_wrong ⟨((List.range 16).map fun i => f i).toArray⟩ ⟨nl.toArray⟩ ⟨(al.take (min al.length 120)).toArray⟩ ⟨(bl.take (min bl.length 120)).toArray⟩ w' (by simp) (by rw [bsz]; exact hl) (by rw [bsz]; simp; omega) (by rw [bsz]; simp; omega) (by rw [bsz]; exact h16) he) rfl) ?_
  try simp only [n0, n1, n2, n3, getD_cons_zero, getD_cons_succ, set_cons_zero, set_cons_succ, zero_add, add_zero, mul_one, zero_mul, m2, m3, m4]
  refine plan_p rfl rfl pr_move ?_
  try simp only [n0, n1, n2, n3, getD_cons_zero, getD_cons_succ, set_cons_zero, set_cons_succ, zero_add, add_zero, mul_one, zero_mul, m2, m3, m4]
  refine plan_p rfl rfl (pr_extract rfl rfl) ?_
  try simp only [n0, n1, n2, n3, getD_cons_zero, getD_cons_succ, set_cons_zero, set_cons_succ, zero_add, add_zero, mul_one, zero_mul, m2, m3, m4]
  refine plan_p rfl rfl (pr_extract rfl rfl) ?_
  try simp only [n0, n1, n2, n3, getD_cons_zero, getD_cons_succ, set_cons_zero, set_cons_succ, zero_add, add_zero, mul_one, zero_mul, m2, m3, m4]
  refine plan_p rfl rfl pr_assign ?_
  try simp only [n0, n1, n2, n3, getD_cons_zero, getD_cons_succ, set_cons_zero, set_cons_succ, zero_add, add_zero, mul_one, zero_mul, m2, m3, m4]
  refine plan_p rfl rfl pr_assign ?_
  try simp only [n0, n1, n2, n3, getD_cons_zero, getD_cons_succ, set_cons_zero, set_cons_succ, zero_add, add_zero, mul_one, zero_mul, m2, m3, m4]
  refine plan_nil hH ?_
  clear hH
  intro w33 hH
  refine hK32 _ _ ?_
  try clear hK32 K32
  refine wp_seq_k ?_
  intro K34 hK34
  refine wp_region_text [.p 0, .p 1, .q 2, .p 3, .p 4, .q 5, .p 6, .p 7, .p 8, .p 9, .p 10] rfl ?_
  refine plan_p rfl rfl pr_move ?_
  try simp only [n0, n1, n2, n3, getD_cons_zero, getD_cons_succ, set_cons_zero, set_cons_succ, zero_add, add_zero, mul_one, zero_mul, m2, m3, m4]
  refine plan_p rfl rfl (pr_fieldAddr 16 rfl Try.underlying48 rfl rfl sz27) ?_
  try simp only [n0, n1, n2, n3, getD_cons_zero, getD_cons_succ, set_cons_zero, set_cons_succ, zero_add, add_zero, mul_one, zero_mul, m2, m3, m4]
  refine plan_q rfl rfl (qr_load1 rfl Try.underlying27 rfl ((hH.blk 0 rfl).cell letterC_nonce)) ?_
  try simp only [n0, n1, n2, n3, getD_cons_zero, getD_cons_succ, set_cons_zero, set_cons_succ, zero_add, add_zero, mul_one, zero_mul, m2, m3, m4]
  refine plan_p rfl rfl pr_move ?_
  try simp only [n0, n1, n2, n3, getD_cons_zero, getD_cons_succ, set_cons_zero, set_cons_succ, zero_add, add_zero, mul_one, zero_mul, m2, m3, m4]
  refine plan_p rfl rfl pr_move ?_
  try simp only [n0, n1, n2, n3, getD_cons_zero, getD_cons_succ, set_cons_zero, set_cons_succ, zero_add, add_zero, mul_one, zero_mul, m2, m3, m4]
  refine plan_q rfl rfl (qr_call cf32 (fun w' hw => Open_wrong _ _ _ (hP _) _ _ _ _ _ _ w' (hw.nil_blk (hH.blk 2 rfl)) (hw.nil_blk (hH.blk 1 rfl)) ((hn.chg hH.chg).chg hw) hl ((Sl.cuth (ha.chg hH.chg) (by omega)).chg hw) ((Sl.cuth (hb.chg hH.chg) (by omega)).chg hw) (by simp; omega) h16 he) rfl) ?_
  try simp only [n0, n1, n2, n3, getD_cons_zero, getD_cons_succ, set_cons_zero, set_cons_succ, zero_add, add_zero, mul_one, zero_mul, m2, m3, m4]
  refine plan_p rfl rfl pr_move ?_
  try simp only [n0, n1, n2, n3, getD_cons_zero, getD_cons_succ, set_cons_zero, set_cons_succ, zero_add, add_zero, mul_one, zero_mul, m2, m3, m4]
  refine plan_p rfl rfl (pr_extract rfl rfl) ?_
  try simp only [n0, n1, n2, n3, getD_cons_zero, getD_cons_succ, set_cons_zero, set_cons_succ, zero_add, add_zero, mul_one, zero_mul, m2, m3, m4]
  refine plan_p rfl rfl (pr_extract rfl rfl) ?_
  try simp only [n0, n1, n2, n3, getD_cons_zero, getD_cons_succ, set_cons_zero, set_cons_succ, zero_add, add_zero, mul_one, zero_mul, m2, m3, m4]
  refine plan_p rfl rfl pr_assign ?_
  try simp only [n0, n1, n2, n3, getD_cons_zero, getD_cons_succ, set_cons_zero, set_cons_succ, zero_add, add_zero, mul_one, zero_mul, m2, m3, m4]
  refine plan_p rfl rfl pr_assign ?_
  try simp only [n0, n1, n2, n3, getD_cons_zero, getD_cons_succ, set_cons_zero, set_cons_succ, zero_add, add_zero, mul_one, zero_mul, m2, m3, m4]
  refine plan_nil hH ?_
  clear hH
  intro w35 hH
  refine hK34 _ _ ?_
  try clear hK34 K34
  refine wp_seq_k ?_
  intro K36 hK36
  refine wp_region_text [.p 0, .q 1, .p 2, .p 3, .p 4, .p 5, .p 6, .p 7, .p 8, .p 9, .p 10, .q 11, .p 12, .p 13, .p 14, .p 15, .p 16, .p 17, .p 18, .p 19, .p 20] rfl ?_
  refine plan_p rfl rfl pr_move ?_
  try simp only [n0, n1, n2, n3, getD_cons_zero, getD_cons_succ, set_cons_zero, set_cons_succ, zero_add, add_zero, mul_one, zero_mul, m2, m3, m4]
  refine plan_q rfl rfl (qr_b2s (OwnC.sl hH 3 rfl hO30) rfl Try.underlying27 Try.underlying5 Try.underlying9) ?_
  try simp only [n0, n1, n2, n3, getD_cons_zero, getD_cons_succ, set_cons_zero, set_cons_succ, zero_add, add_zero, mul_one, zero_mul, m2, m3, m4]
  refine plan_p rfl rfl pr_move ?_
  try simp only [n0, n1, n2, n3, getD_cons_zero, getD_cons_succ, set_cons_zero, set_cons_succ, zero_add, add_zero, mul_one, zero_mul, m2, m3, m4]
  refine plan_p rfl rfl (pr_bin rfl rfl bin_eql_s) ?_
  try simp only [n0, n1, n2, n3, getD_cons_zero, getD_cons_succ, set_cons_zero, set_cons_succ, zero_add, add_zero, mul_one, zero_mul, m2, m3, m4]
  refine plan_p (v := BV true) rfl rfl (pr_move_v (by show BV (_ == _) = _; exact congrArg BV (beq_self_eq_true _))) ?_
  try simp only [n0, n1, n2, n3, getD_cons_zero, getD_cons_succ, set_cons_zero, set_cons_succ, zero_add, add_zero, mul_one, zero_mul, m2, m3, m4]
  refine plan_p rfl rfl pr_move ?_
  try simp only [n0, n1, n2, n3, getD_cons_zero, getD_cons_succ, set_cons_zero, set_cons_succ, zero_add, add_zero, mul_one, zero_mul, m2, m3, m4]
  refine plan_p rfl rfl pr_move ?_
  try simp only [n0, n1, n2, n3, getD_cons_zero, getD_cons_succ, set_cons_zero, set_cons_succ, zero_add, add_zero, mul_one, zero_mul, m2, m3, m4]
  refine plan_p rfl rfl (pr_bin rfl rfl (by first | exact bin_eql_n  | exact bin_eql_i)) ?_
  try simp only [n0, n1, n2, n3, getD_cons_zero, getD_cons_succ, set_cons_zero, set_cons_succ, zero_add, add_zero, mul_one, zero_mul, m2, m3, m4]
  refine plan_p rfl rfl (pr_pick_t rfl) ?_
  try simp only [n0, n1, n2, n3, getD_cons_zero, getD_cons_succ, set_cons_zero, set_cons_succ, zero_add, add_zero, mul_one, zero_mul, m2, m3, m4]
  refine plan_p (v := BV true) rfl rfl (pr_move_v rfl) ?_
  try simp only [n0, n1, n2, n3, getD_cons_zero, getD_cons_succ, set_cons_zero, set_cons_succ, zero_add, add_zero, mul_one, zero_mul, m2, m3, m4]
  refine plan_p rfl rfl pr_move ?_
  try simp only [n0, n1, n2, n3, getD_cons_zero, getD_cons_succ, set_cons_zero, set_cons_succ, zero_add, add_zero, mul_one, zero_mul, m2, m3, m4]
  refine plan_q rfl rfl (qr_b2s Sl.nil rfl Try.underlying27 Try.underlying5 Try.underlying9) ?_
  try simp only [n0, n1, n2, n3, getD_cons_zero, getD_cons_succ, set_cons_zero, set_cons_succ, zero_add, add_zero, mul_one, zero_mul, m2, m3, m4]
  refine plan_p rfl rfl pr_move ?_
  try simp only [n0, n1, n2, n3, getD_cons_zero, getD_cons_succ, set_cons_zero, set_cons_succ, zero_add, add_zero, mul_one, zero_mul, m2, m3, m4]
  refine plan_p rfl rfl (pr_bin rfl rfl bin_eql_s) ?_
  try simp only [n0, n1, n2, n3, getD_cons_zero, getD_cons_succ, set_cons_zero, set_cons_succ, zero_add, add_zero, mul_one, zero_mul, m2, m3, m4]
  refine plan_p rfl rfl (pr_pick_t rfl) ?_
  try simp only [n0, n1, n2, n3, getD_cons_zero, getD_cons_succ, set_cons_zero, set_cons_succ, zero_add, add_zero, mul_one, zero_mul, m2, m3, m4]
  refine plan_p (v := BV true) rfl rfl (pr_move_v (by show BV (_ == _) = _; exact congrArg BV (beq_self_eq_true _))) ?_
  try simp only [n0, n1, n2, n3, getD_cons_zero, getD_cons_succ, set_cons_zero, set_cons_succ, zero_add, add_zero, mul_one, zero_mul, m2, m3, m4]
  refine plan_p rfl rfl pr_move ?_
  try simp only [n0, n1, n2, n3, getD_cons_zero, getD_cons_succ, set_cons_zero, set_cons_succ, zero_add, add_zero, mul_one, zero_mul, m2, m3, m4]
  refine plan_p rfl rfl pr_move ?_
  try simp only [n0, n1, n2, n3, getD_cons_zero, getD_cons_succ, set_cons_zero, set_cons_succ, zero_add, add_zero, mul_one, zero_mul, m2, m3, m4]
  refine plan_p rfl rfl (pr_bin rfl rfl (by first | exact bin_eql_n  | exact bin_eql_i)) ?_
  try simp only [n0, n1, n2, n3, getD_cons_zero, getD_cons_succ, set_cons_zero, set_cons_succ, zero_add, add_zero, mul_one, zero_mul, m2, m3, m4]
  refine plan_p rfl rfl (pr_pick_t rfl) ?_
  try simp only [n0, n1, n2, n3, getD_cons_zero, getD_cons_succ, set_cons_zero, set_cons_succ, zero_add, add_zero, mul_one, zero_mul, m2, m3, m4]
  refine plan_p rfl rfl pr_assign ?_
  try simp only [n0, n1, n2, n3, getD_cons_zero, getD_cons_succ, set_cons_zero, set_cons_succ, zero_add, add_zero, mul_one, zero_mul, m2, m3, m4]
  refine plan_nil hH ?_
  clear hH
  intro w37 hH
  refine hK36 _ _ ?_
  try clear hK36 K36
  refine wp_ret ?_
  try simp only [Exit.then, Exit.inBlock, ↓reduceIte, Nat.reduceEqDiff]
  refine BP.ret1 rfl rfl ?_
  exact ⟨rfl, hH.chg⟩

theorem gcmseal_right (f : Nat → UInt8) (nv av bv : Value) (nl al bl : List UInt8) (w : World) (hn : Sl w nv nl) (ha : Sl w av al) (hb : Sl w bv bl) (hnl : nl.length ≤ reachBytes) (hl : nl.length = 12) (h16 : 16 ≤ (bl.take (min bl.length 120)).length) (he : sealL (kexp fun i => ((List.range 16).map fun i => f i).getD i 0) (hP (kexp fun i => ((List.range 16).map fun i => f i).getD i 0)) nl (al.take (min al.length 120)) ((bl.take (min bl.length 120)).take ((bl.take (min bl.length 120)).length - 16)) = (bl.take (min bl.length 120)).drop ((bl.take (min bl.length 120)).length - 16)) : Ret Try.prog 11 #[.agg (letterC f nv av bv)] w fun v w' => v = BV true ∧ Chg [] w w' := by
  refine Ret.enter Try.func11 rfl ?_
  simp only [Try.ntmps11, List.size_toArray, List.length_cons, List.length_nil, Nat.reduceAdd, Nat.reduceSub, frame_enter, List.replicate_succ, List.replicate_zero, List.nil_append, List.cons_append]
  have hH := Hp.start [] w
  refine wp_seq_k ?_
  intro K1 hK1
  refine wp_region_text [.x 0, .p 1] rfl ?_
  refine plan_box rfl rfl hH rfl ?_
  clear hH
  intro b2 w3 hH
  try simp only [n0, n1, n2, n3, getD_cons_zero, getD_cons_succ, set_cons_zero, set_cons_succ, zero_add, add_zero, mul_one, zero_mul, m2, m3, m4, m5, m6, m7, Value.cells, arr8_set, arr32_set, arr64_set, arrB_set] at hH ⊢
  refine plan_p rfl rfl pr_assign ?_
  try simp only [n0, n1, n2, n3, getD_cons_zero, getD_cons_succ, set_cons_zero, set_cons_succ, zero_add, add_zero, mul_one, zero_mul, m2, m3, m4]
  refine plan_nil hH ?_
  clear hH
  intro w4 hH
  refine hK1 _ _ ?_
  try clear hK1 K1
  refine wp_seq_k ?_
  intro K5 hK5
  refine wp_region_text [.p 0, .p 1, .x 2, .p 3, .p 4, .p 5, .p 6, .p 7] rfl ?_
  refine plan_p rfl rfl (pr_fieldAddr 0 rfl Try.underlying48 rfl rfl sz22) ?_
  try simp only [n0, n1, n2, n3, getD_cons_zero, getD_cons_succ, set_cons_zero, set_cons_succ, zero_add, add_zero, mul_one, zero_mul, m2, m3, m4]
  refine plan_p rfl rfl (pr_slice_arr_all rfl Try.underlying22 sz5) ?_
  try simp only [n0, n1, n2, n3, getD_cons_zero, getD_cons_succ, set_cons_zero, set_cons_succ, zero_add, add_zero, mul_one, zero_mul, m2, m3, m4]
  try simp only [Nat.mul_one, Nat.zero_add, Nat.add_sub_cancel_left]
  refine plan_callx rfl rfl hH cf23 (fun w' hH => gnew_calls _ _ w' (letter_key (hH.blk 0 rfl)) (by simp)) rfl (fun _ _ _ h => by obtain ⟨_, _, _, hg, _⟩ := h; exact hg) ?_
  clear hH
  intro w6 v7 w8 hH hp9
  obtain ⟨b10, b11, rfl, hg, hfc, hbc, hfx, hbx, hne⟩ := hp9
  replace hH := hH.callnew2 hg hbc hfc hbx hfx hne
  clear hg hfc hbc hfx hbx hne
  try simp only [n0, n1, n2, n3, getD_cons_zero, getD_cons_succ, set_cons_zero, set_cons_succ, zero_add, add_zero, mul_one, zero_mul, m2, m3, m4, m5, m6, m7, Value.cells, arr8_set, arr32_set, arr64_set, arrB_set] at hH ⊢
  try simp only [n0, n1, n2, n3, getD_cons_zero, getD_cons_succ, set_cons_zero, set_cons_succ, zero_add, add_zero, mul_one, zero_mul, m2, m3, m4]
  refine plan_p rfl rfl pr_move ?_
  try simp only [n0, n1, n2, n3, getD_cons_zero, getD_cons_succ, set_cons_zero, set_cons_succ, zero_add, add_zero, mul_one, zero_mul, m2, m3, m4]
  refine plan_p rfl rfl (pr_extract rfl rfl) ?_
  try simp only [n0, n1, n2, n3, getD_cons_zero, getD_cons_succ, set_cons_zero, set_cons_succ, zero_add, add_zero, mul_one, zero_mul, m2, m3, m4]
  refine plan_p rfl rfl (pr_extract rfl rfl) ?_
  try simp only [n0, n1, n2, n3, getD_cons_zero, getD_cons_succ, set_cons_zero, set_cons_succ, zero_add, add_zero, mul_one, zero_mul, m2, m3, m4]
  refine plan_p rfl rfl pr_assign ?_
  try simp only [n0, n1, n2, n3, getD_cons_zero, getD_cons_succ, set_cons_zero, set_cons_succ, zero_add, add_zero, mul_one, zero_mul, m2, m3, m4]
  refine plan_p rfl rfl pr_assign ?_
  try simp only [n0, n1, n2, n3, getD_cons_zero, getD_cons_succ, set_cons_zero, set_cons_succ, zero_add, add_zero, mul_one, zero_mul, m2, m3, m4]
  refine plan_nil hH ?_
  clear hH
  intro w12 hH
  refine hK5 _ _ ?_
  try clear hK5 K5
  refine wp_seq_k ?_
  intro K13 hK13
  refine wp_region_text [.q 0, .q 1, .p 2, .p 3, .p 4, .p 5, .p 6] rfl ?_
  refine plan_q rfl rfl (qr_call cf29 (fun w' hw => none4_calls w') rfl) ?_
  try simp only [n0, n1, n2, n3, getD_cons_zero, getD_cons_succ, set_cons_zero, set_cons_succ, zero_add, add_zero, mul_one, zero_mul, m2, m3, m4]
  refine plan_q rfl rfl (qr_call cf26 (fun w' hw => Seal_nil _ _ _ _ w' Sl.nil (by simp)) rfl) ?_
  try simp only [n0, n1, n2, n3, getD_cons_zero, getD_cons_succ, set_cons_zero, set_cons_succ, zero_add, add_zero, mul_one, zero_mul, m2, m3, m4]
  refine plan_p rfl rfl pr_move ?_
  try simp only [n0, n1, n2, n3, getD_cons_zero, getD_cons_succ, set_cons_zero, set_cons_succ, zero_add, add_zero, mul_one, zero_mul, m2, m3, m4]
  refine plan_p rfl rfl (pr_extract rfl rfl) ?_
  try simp only [n0, n1, n2, n3, getD_cons_zero, getD_cons_succ, set_cons_zero, set_cons_succ, zero_add, add_zero, mul_one, zero_mul, m2, m3, m4]
  refine plan_p rfl rfl (pr_extract rfl rfl) ?_
  try simp only [n0, n1, n2, n3, getD_cons_zero, getD_cons_succ, set_cons_zero, set_cons_succ, zero_add, add_zero, mul_one, zero_mul, m2, m3, m4]
  refine plan_p rfl rfl pr_assign ?_
  try simp only [n0, n1, n2, n3, getD_cons_zero, getD_cons_succ, set_cons_zero, set_cons_succ, zero_add, add_zero, mul_one, zero_mul, m2, m3, m4]
  refine plan_p rfl rfl pr_assign ?_
  try simp only [n0, n1, n2, n3, getD_cons_zero, getD_cons_succ, set_cons_zero, set_cons_succ, zero_add, add_zero, mul_one, zero_mul, m2, m3, m4]
  refine plan_nil hH ?_
  clear hH
  intro w14 hH
  refine hK13 _ _ ?_
  try clear hK13 K13
  refine wp_seq_k ?_
  intro K15 hK15
  refine wp_seq_k ?_
  intro K16 hK16
  refine wp_region_text [.q 0, .p 1, .p 2, .p 3, .p 4, .p 5, .p 6, .p 7, .p 8, .p 9] rfl ?_
  refine plan_q rfl rfl (qr_call cf24 (fun w' hw => sealed_calls w') rfl) ?_
  try simp only [n0, n1, n2, n3, getD_cons_zero, getD_cons_succ, set_cons_zero, set_cons_succ, zero_add, add_zero, mul_one, zero_mul, m2, m3, m4]
  refine plan_p rfl rfl (pr_not rfl) ?_
  try simp only [n0, n1, n2, n3, getD_cons_zero, getD_cons_succ, set_cons_zero, set_cons_succ, zero_add, add_zero, mul_one, zero_mul, m2, m3, m4]
  refine plan_p (v := BV false) rfl rfl (pr_move_v rfl) ?_
  try simp only [n0, n1, n2, n3, getD_cons_zero, getD_cons_succ, set_cons_zero, set_cons_succ, zero_add, add_zero, mul_one, zero_mul, m2, m3, m4]
  refine plan_p rfl rfl pr_move ?_
  try simp only [n0, n1, n2, n3, getD_cons_zero, getD_cons_succ, set_cons_zero, set_cons_succ, zero_add, add_zero, mul_one, zero_mul, m2, m3, m4]
  refine plan_p rfl rfl (pr_bin rfl rfl (by first | exact bin_neq_n (n := 0)  | exact bin_neq_i)) ?_
  try simp only [n0, n1, n2, n3, getD_cons_zero, getD_cons_succ, set_cons_zero, set_cons_succ, zero_add, add_zero, mul_one, zero_mul, m2, m3, m4]
  refine plan_p rfl rfl (pr_pick_f rfl) ?_
  try simp only [n0, n1, n2, n3, getD_cons_zero, getD_cons_succ, set_cons_zero, set_cons_succ, zero_add, add_zero, mul_one, zero_mul, m2, m3, m4]
  refine plan_p (v := BV false) rfl rfl (pr_move_v rfl) ?_
  try simp only [n0, n1, n2, n3, getD_cons_zero, getD_cons_succ, set_cons_zero, set_cons_succ, zero_add, add_zero, mul_one, zero_mul, m2, m3, m4]
  refine plan_p rfl rfl pr_move ?_
  try simp only [n0, n1, n2, n3, getD_cons_zero, getD_cons_succ, set_cons_zero, set_cons_succ, zero_add, add_zero, mul_one, zero_mul, m2, m3, m4]
  refine plan_p rfl rfl (pr_bin rfl rfl (by first | exact bin_neq_n (n := 1)  | exact bin_neq_i)) ?_
  try simp only [n0, n1, n2, n3, getD_cons_zero, getD_cons_succ, set_cons_zero, set_cons_succ, zero_add, add_zero, mul_one, zero_mul, m2, m3, m4]
  refine plan_p rfl rfl (pr_pick_f rfl) ?_
  try simp only [n0, n1, n2, n3, getD_cons_zero, getD_cons_succ, set_cons_zero, set_cons_succ, zero_add, add_zero, mul_one, zero_mul, m2, m3, m4]
  refine plan_nil hH ?_
  clear hH
  intro w17 hH
  refine hK16 _ _ ?_
  try clear hK16 K16
  refine wp_cond_false rfl ?_
  refine wp_skip ?_
  refine hK15 _ _ ?_
  try clear hK15 K15
  refine wp_seq_k ?_
  intro K18 hK18
  refine wp_region_plan [.p 0, .p 1, .p 3, .p 6, .q 2, .q 4, .q 5, .q 7, .q 8, .p 9, .p 10, .p 11] (by kernel_rfl) (by kernel_rfl) (by kernel_rfl) (by kernel_rfl) (fun _ _ _ _ _ h => by first | exact h | exact BP.panic _ _ _ _ _ h) ?_
  refine plan_p rfl rfl (pr_fieldAddr 0 rfl Try.underlying48 rfl rfl sz22) ?_
  try simp only [n0, n1, n2, n3, getD_cons_zero, getD_cons_succ, set_cons_zero, set_cons_succ, zero_add, add_zero, mul_one, zero_mul, m2, m3, m4]
  refine plan_p rfl rfl (pr_slice_arr_all rfl Try.underlying22 sz5) ?_
  try simp only [n0, n1, n2, n3, getD_cons_zero, getD_cons_succ, set_cons_zero, set_cons_succ, zero_add, add_zero, mul_one, zero_mul, m2, m3, m4]
  try simp only [Nat.mul_one, Nat.zero_add, Nat.add_sub_cancel_left]
  refine plan_p rfl rfl (pr_fieldAddr 17 rfl Try.underlying48 rfl rfl sz27) ?_
  try simp only [n0, n1, n2, n3, getD_cons_zero, getD_cons_succ, set_cons_zero, set_cons_succ, zero_add, add_zero, mul_one, zero_mul, m2, m3, m4]
  refine plan_p rfl rfl (pr_fieldAddr 18 rfl Try.underlying48 rfl rfl sz27) ?_
  try simp only [n0, n1, n2, n3, getD_cons_zero, getD_cons_succ, set_cons_zero, set_cons_succ, zero_add, add_zero, mul_one, zero_mul, m2, m3, m4]
  refine plan_q rfl rfl (qr_b2s (letter_key (hH.blk 0 rfl)) rfl Try.underlying27 Try.underlying5 Try.underlying9) ?_
  try simp only [n0, n1, n2, n3, getD_cons_zero, getD_cons_succ, set_cons_zero, set_cons_succ, zero_add, add_zero, mul_one, zero_mul, m2, m3, m4]
  refine plan_q rfl rfl (qr_load1 rfl Try.underlying27 rfl ((hH.blk 0 rfl).cell letterC_side)) ?_
  try simp only [n0, n1, n2, n3, getD_cons_zero, getD_cons_succ, set_cons_zero, set_cons_succ, zero_add, add_zero, mul_one, zero_mul, m2, m3, m4]
  refine plan_q rfl rfl (qr_call cf25 (fun w' hw => cut_calls _ _ w' ((ha.chg hH.chg).chg hw)) rfl) ?_
  try simp only [n0, n1, n2, n3, getD_cons_zero, getD_cons_succ, set_cons_zero, set_cons_succ, zero_add, add_zero, mul_one, zero_mul, m2, m3, m4]
  refine plan_q rfl rfl (qr_load1 rfl Try.underlying27 rfl ((hH.blk 0 rfl).cell letterC_bytes)) ?_
  try simp only [n0, n1, n2, n3, getD_cons_zero, getD_cons_succ, set_cons_zero, set_cons_succ, zero_add, add_zero, mul_one, zero_mul, m2, m3, m4]
  refine plan_q rfl rfl (qr_call cf25 (fun w' hw => cut_calls _ _ w' ((hb.chg hH.chg).chg hw)) rfl) ?_
  try simp only [n0, n1, n2, n3, getD_cons_zero, getD_cons_succ, set_cons_zero, set_cons_succ, zero_add, add_zero, mul_one, zero_mul, m2, m3, m4]
  refine plan_p rfl rfl pr_assign ?_
  try simp only [n0, n1, n2, n3, getD_cons_zero, getD_cons_succ, set_cons_zero, set_cons_succ, zero_add, add_zero, mul_one, zero_mul, m2, m3, m4]
  refine plan_p rfl rfl pr_assign ?_
  try simp only [n0, n1, n2, n3, getD_cons_zero, getD_cons_succ, set_cons_zero, set_cons_succ, zero_add, add_zero, mul_one, zero_mul, m2, m3, m4]
  refine plan_p rfl rfl pr_assign ?_
  try simp only [n0, n1, n2, n3, getD_cons_zero, getD_cons_succ, set_cons_zero, set_cons_succ, zero_add, add_zero, mul_one, zero_mul, m2, m3, m4]
  refine plan_nil hH ?_
  clear hH
  intro w19 hH
  refine hK18 _ _ ?_
  try clear hK18 K18
  refine wp_seq_k ?_
  intro K20 hK20
  refine wp_region_text [.p 0, .p 1, .q 2, .q 3, .p 4, .q 5, .p 6, .q 7, .q 8, .p 9, .p 10, .p 11, .p 12, .p 13] rfl ?_
  refine plan_p rfl rfl pr_move ?_
  try simp only [n0, n1, n2, n3, getD_cons_zero, getD_cons_succ, set_cons_zero, set_cons_succ, zero_add, add_zero, mul_one, zero_mul, m2, m3, m4]
  refine plan_p rfl rfl (pr_fieldAddr 16 rfl Try.underlying48 rfl rfl sz27) ?_
  try simp only [n0, n1, n2, n3, getD_cons_zero, getD_cons_succ, set_cons_zero, set_cons_succ, zero_add, add_zero, mul_one, zero_mul, m2, m3, m4]
  refine plan_q rfl rfl (qr_load1 rfl Try.underlying27 rfl ((hH.blk 0 rfl).cell letterC_nonce)) ?_
  try simp only [n0, n1, n2, n3, getD_cons_zero, getD_cons_succ, set_cons_zero, set_cons_succ, zero_add, add_zero, mul_one, zero_mul, m2, m3, m4]
  refine plan_q rfl rfl (qr_b2s (hn.chg hH.chg) rfl Try.underlying27 Try.underlying5 Try.underlying9) ?_
  try simp only [n0, n1, n2, n3, getD_cons_zero, getD_cons_succ, set_cons_zero, set_cons_succ, zero_add, add_zero, mul_one, zero_mul, m2, m3, m4]
  refine plan_p rfl rfl pr_move ?_
  try simp only [n0, n1, n2, n3, getD_cons_zero, getD_cons_succ, set_cons_zero, set_cons_succ, zero_add, add_zero, mul_one, zero_mul, m2, m3, m4]
  refine plan_q rfl rfl (qr_b2s (Sl.cuth (ha.chg hH.chg) (by omega)) rfl Try.underlying27 Try.underlying5 Try.underlying9) ?_
  try simp only [n0, n1, n2, n3, getD_cons_zero, getD_cons_succ, set_cons_zero, set_cons_succ, zero_add, add_zero, mul_one, zero_mul, m2, m3, m4]
  refine plan_p rfl rfl pr_move ?_
  try simp only [n0, n1, n2, n3, getD_cons_zero, getD_cons_succ, set_cons_zero, set_cons_succ, zero_add, add_zero, mul_one, zero_mul, m2, m3, m4]
  refine plan_q rfl rfl (qr_b2s (Sl.cuth (hb.chg hH.chg) (by omega)) rfl Try.underlying27 Try.underlying5 Try.underlying9) ?_
  try simp only [n0, n1, n2, n3, getD_cons_zero, getD_cons_succ, set_cons_zero, set_cons_succ, zero_add, add_zero, mul_one, zero_mul, m2, m3, m4]
  refine plan_q rfl rfl (qr_call cf30 (fun w' hw => refSeal_calls ⟨((List.range 16).map fun i => f i).toArray⟩ ⟨nl.toArray⟩ ⟨(al.take (min al.length 120)).toArray⟩ ⟨(bl.take (min bl.length 120)).toArray⟩ w' (by simp) (by rw [bsz]; exact hl) (by rw [bsz]; simp; omega) (by rw [bsz]; simp; omega)) rfl) ?_
  try simp only [n0, n1, n2, n3, getD_cons_zero, getD_cons_succ, set_cons_zero, set_cons_succ, zero_add, add_zero, mul_one, zero_mul, m2, m3, m4]
  refine plan_p rfl rfl pr_move ?_
  try simp only [n0, n1, n2, n3, getD_cons_zero, getD_cons_succ, set_cons_zero, set_cons_succ, zero_add, add_zero, mul_one, zero_mul, m2, m3, m4]
  refine plan_p rfl rfl (pr_extract rfl rfl) ?_
  try simp only [n0, n1, n2, n3, getD_cons_zero, getD_cons_succ, set_cons_zero, set_cons_succ, zero_add, add_zero, mul_one, zero_mul, m2, m3, m4]
  refine plan_p rfl rfl (pr_extract rfl rfl) ?_
  try simp only [n0, n1, n2, n3, getD_cons_zero, getD_cons_succ, set_cons_zero, set_cons_succ, zero_add, add_zero, mul_one, zero_mul, m2, m3, m4]
  refine plan_p rfl rfl pr_assign ?_
  try simp only [n0, n1, n2, n3, getD_cons_zero, getD_cons_succ, set_cons_zero, set_cons_succ, zero_add, add_zero, mul_one, zero_mul, m2, m3, m4]
  refine plan_p rfl rfl pr_assign ?_
  try simp only [n0, n1, n2, n3, getD_cons_zero, getD_cons_succ, set_cons_zero, set_cons_succ, zero_add, add_zero, mul_one, zero_mul, m2, m3, m4]
  refine plan_nil hH ?_
  clear hH
  intro w21 hH
  refine hK20 _ _ ?_
  try clear hK20 K20
  refine wp_seq_k ?_
  intro K22 hK22
  refine wp_region_text [.p 0, .p 1, .q 2, .p 3, .p 4, .x 5, .p 6, .p 7, .p 8, .p 9, .p 10] rfl ?_
  refine plan_p rfl rfl pr_move ?_
  try simp only [n0, n1, n2, n3, getD_cons_zero, getD_cons_succ, set_cons_zero, set_cons_succ, zero_add, add_zero, mul_one, zero_mul, m2, m3, m4]
  refine plan_p rfl rfl (pr_fieldAddr 16 rfl Try.underlying48 rfl rfl sz27) ?_
  try simp only [n0, n1, n2, n3, getD_cons_zero, getD_cons_succ, set_cons_zero, set_cons_succ, zero_add, add_zero, mul_one, zero_mul, m2, m3, m4]
  refine plan_q rfl rfl (qr_load1 rfl Try.underlying27 rfl ((hH.blk 0 rfl).cell letterC_nonce)) ?_
  try simp only [n0, n1, n2, n3, getD_cons_zero, getD_cons_succ, set_cons_zero, set_cons_succ, zero_add, add_zero, mul_one, zero_mul, m2, m3, m4]
  refine plan_p rfl rfl pr_move ?_
  try simp only [n0, n1, n2, n3, getD_cons_zero, getD_cons_succ, set_cons_zero, set_cons_succ, zero_add, add_zero, mul_one, zero_mul, m2, m3, m4]
  refine plan_p rfl rfl pr_move ?_
  try simp only [n0, n1, n2, n3, getD_cons_zero, getD_cons_succ, set_cons_zero, set_cons_succ, zero_add, add_zero, mul_one, zero_mul, m2, m3, m4]
  refine plan_callx rfl rfl hH cf26 (fun w' hH => Seal_calls _ _ _ (hP _) _ _ _ _ _ _ w' (hH.blk 2 rfl) (hH.blk 1 rfl) (hn.chg hH.chg) hl (Sl.cuth (ha.chg hH.chg) (by omega)) (Sl.cuth (hb.chg hH.chg) (by omega)) (by simp; omega)) rfl (fun _ _ _ h => by obtain ⟨_, _, _, _, hg, _⟩ := h; exact hg) ?_
  clear hH
  intro w23 v24 w25 hH hp26
  obtain ⟨o27, cap28, cs29, rfl, hg, hO30, hfr⟩ := hp26
  replace hH := hH.callown hg hfr
  clear hg hfr
  try simp only [n0, n1, n2, n3, getD_cons_zero, getD_cons_succ, set_cons_zero, set_cons_succ, zero_add, add_zero, mul_one, zero_mul, m2, m3, m4, m5, m6, m7, Value.cells, arr8_set, arr32_set, arr64_set, arrB_set] at hH ⊢
  try simp only [n0, n1, n2, n3, getD_cons_zero, getD_cons_succ, set_cons_zero, set_cons_succ, zero_add, add_zero, mul_one, zero_mul, m2, m3, m4]
  refine plan_p rfl rfl pr_move ?_
  try simp only [n0, n1, n2, n3, getD_cons_zero, getD_cons_succ, set_cons_zero, set_cons_succ, zero_add, add_zero, mul_one, zero_mul, m2, m3, m4]
  refine plan_p rfl rfl (pr_extract rfl rfl) ?_
  try simp only [n0, n1, n2, n3, getD_cons_zero, getD_cons_succ, set_cons_zero, set_cons_succ, zero_add, add_zero, mul_one, zero_mul, m2, m3, m4]
  refine plan_p rfl rfl (pr_extract rfl rfl) ?_
  try simp only [n0, n1, n2, n3, getD_cons_zero, getD_cons_succ, set_cons_zero, set_cons_succ, zero_add, add_zero, mul_one, zero_mul, m2, m3, m4]
  refine plan_p rfl rfl pr_assign ?_
  try simp only [n0, n1, n2, n3, getD_cons_zero, getD_cons_succ, set_cons_zero, set_cons_succ, zero_add, add_zero, mul_one, zero_mul, m2, m3, m4]
  refine plan_p rfl rfl pr_assign ?_
  try simp only [n0, n1, n2, n3, getD_cons_zero, getD_cons_succ, set_cons_zero, set_cons_succ, zero_add, add_zero, mul_one, zero_mul, m2, m3, m4]
  refine plan_nil hH ?_
  clear hH
  intro w31 hH
  refine hK22 _ _ ?_
  try clear hK22 K22
  refine wp_seq_k ?_
  intro K32 hK32
  refine wp_region_text [.p 0, .p 1, .q 2, .q 3, .p 4, .q 5, .p 6, .q 7, .q 8, .p 9, .p 10, .p 11, .p 12, .p 13] rfl ?_
  refine plan_p rfl rfl pr_move ?_
  try simp only [n0, n1, n2, n3, getD_cons_zero, getD_cons_succ, set_cons_zero, set_cons_succ, zero_add, add_zero, mul_one, zero_mul, m2, m3, m4]
  refine plan_p rfl rfl (pr_fieldAddr 16 rfl Try.underlying48 rfl rfl sz27) ?_
  try simp only [n0, n1, n2, n3, getD_cons_zero, getD_cons_succ, set_cons_zero, set_cons_succ, zero_add, add_zero, mul_one, zero_mul, m2, m3, m4]
  refine plan_q rfl rfl (qr_load1 rfl Try.underlying27 rfl ((hH.blk 0 rfl).cell letterC_nonce)) ?_
  try simp only [n0, n1, n2, n3, getD_cons_zero, getD_cons_succ, set_cons_zero, set_cons_succ, zero_add, add_zero, mul_one, zero_mul, m2, m3, m4]
  refine plan_q rfl rfl (qr_b2s (hn.chg hH.chg) rfl Try.underlying27 Try.underlying5 Try.underlying9) ?_
  try simp only [n0, n1, n2, n3, getD_cons_zero, getD_cons_succ, set_cons_zero, set_cons_succ, zero_add, add_zero, mul_one, zero_mul, m2, m3, m4]
  refine plan_p rfl rfl pr_move ?_
  try simp only [n0, n1, n2, n3, getD_cons_zero, getD_cons_succ, set_cons_zero, set_cons_succ, zero_add, add_zero, mul_one, zero_mul, m2, m3, m4]
  refine plan_q rfl rfl (qr_b2s (Sl.cuth (ha.chg hH.chg) (by omega)) rfl Try.underlying27 Try.underlying5 Try.underlying9) ?_
  try simp only [n0, n1, n2, n3, getD_cons_zero, getD_cons_succ, set_cons_zero, set_cons_succ, zero_add, add_zero, mul_one, zero_mul, m2, m3, m4]
  refine plan_p rfl rfl pr_move ?_
  try simp only [n0, n1, n2, n3, getD_cons_zero, getD_cons_succ, set_cons_zero, set_cons_succ, zero_add, add_zero, mul_one, zero_mul, m2, m3, m4]
  refine plan_q rfl rfl (qr_b2s (Sl.cuth (hb.chg hH.chg) (by omega)) rfl Try.underlying27 Try.underlying5 Try.underlying9) ?_
  try simp only [n0, n1, n2, n3, getD_cons_zero, getD_cons_succ, set_cons_zero, set_cons_succ, zero_add, add_zero, mul_one, zero_mul, m2, m3, m4]
  refine plan_q rfl rfl (qr_call cf31 (fun w' hw => refOpen_calls ⟨((List.range 16).map fun i => f i).toArray⟩ ⟨nl.toArray⟩ ⟨(al.take (min al.length 120)).toArray⟩ ⟨(bl.take (min bl.length 120)).toArray⟩ w' (by simp) (by rw [bsz]; exact hl) (by rw [bsz]; simp; omega) (by rw [bsz]; simp; omega) (by rw [bsz]; exact h16) he) rfl) ?_
  try simp only [n0, n1, n2, n3, getD_cons_zero, getD_cons_succ, set_cons_zero, set_cons_succ, zero_add, add_zero, mul_one, zero_mul, m2, m3, m4]
  refine plan_p rfl rfl pr_move ?_
  try simp only [n0, n1, n2, n3, getD_cons_zero, getD_cons_succ, set_cons_zero, set_cons_succ, zero_add, add_zero, mul_one, zero_mul, m2, m3, m4]
  refine plan_p rfl rfl (pr_extract rfl rfl) ?_
  try simp only [n0, n1, n2, n3, getD_cons_zero, getD_cons_succ, set_cons_zero, set_cons_succ, zero_add, add_zero, mul_one, zero_mul, m2, m3, m4]
  refine plan_p rfl rfl (pr_extract rfl rfl) ?_
  try simp only [n0, n1, n2, n3, getD_cons_zero, getD_cons_succ, set_cons_zero, set_cons_succ, zero_add, add_zero, mul_one, zero_mul, m2, m3, m4]
  refine plan_p rfl rfl pr_assign ?_
  try simp only [n0, n1, n2, n3, getD_cons_zero, getD_cons_succ, set_cons_zero, set_cons_succ, zero_add, add_zero, mul_one, zero_mul, m2, m3, m4]
  refine plan_p rfl rfl pr_assign ?_
  try simp only [n0, n1, n2, n3, getD_cons_zero, getD_cons_succ, set_cons_zero, set_cons_succ, zero_add, add_zero, mul_one, zero_mul, m2, m3, m4]
  refine plan_nil hH ?_
  clear hH
  intro w33 hH
  refine hK32 _ _ ?_
  try clear hK32 K32
  refine wp_seq_k ?_
  intro K34 hK34
  refine wp_region_text [.p 0, .p 1, .q 2, .p 3, .p 4, .x 5, .p 6, .p 7, .p 8, .p 9, .p 10] rfl ?_
  refine plan_p rfl rfl pr_move ?_
  try simp only [n0, n1, n2, n3, getD_cons_zero, getD_cons_succ, set_cons_zero, set_cons_succ, zero_add, add_zero, mul_one, zero_mul, m2, m3, m4]
  refine plan_p rfl rfl (pr_fieldAddr 16 rfl Try.underlying48 rfl rfl sz27) ?_
  try simp only [n0, n1, n2, n3, getD_cons_zero, getD_cons_succ, set_cons_zero, set_cons_succ, zero_add, add_zero, mul_one, zero_mul, m2, m3, m4]
  refine plan_q rfl rfl (qr_load1 rfl Try.underlying27 rfl ((hH.blk 0 rfl).cell letterC_nonce)) ?_
  try simp only [n0, n1, n2, n3, getD_cons_zero, getD_cons_succ, set_cons_zero, set_cons_succ, zero_add, add_zero, mul_one, zero_mul, m2, m3, m4]
  refine plan_p rfl rfl pr_move ?_
  try simp only [n0, n1, n2, n3, getD_cons_zero, getD_cons_succ, set_cons_zero, set_cons_succ, zero_add, add_zero, mul_one, zero_mul, m2, m3, m4]
  refine plan_p rfl rfl pr_move ?_
  try simp only [n0, n1, n2, n3, getD_cons_zero, getD_cons_succ, set_cons_zero, set_cons_succ, zero_add, add_zero, mul_one, zero_mul, m2, m3, m4]
  refine plan_callx rfl rfl hH cf32 (fun w' hH => Open_calls _ _ _ (hP _) _ _ _ _ _ _ w' (hH.blk 2 rfl) (hH.blk 1 rfl) (hn.chg hH.chg) hl (Sl.cuth (ha.chg hH.chg) (by omega)) (Sl.cuth (hb.chg hH.chg) (by omega)) (by simp; omega) h16 he) rfl (fun _ _ _ h => by obtain ⟨_, _, _, _, hg, _⟩ := h; exact hg) ?_
  clear hH
  intro w35 v36 w37 hH hp38
  obtain ⟨o39, cap40, cs41, rfl, hg, hO42, hfr⟩ := hp38
  replace hH := hH.callown hg hfr
  clear hg hfr
  try simp only [n0, n1, n2, n3, getD_cons_zero, getD_cons_succ, set_cons_zero, set_cons_succ, zero_add, add_zero, mul_one, zero_mul, m2, m3, m4, m5, m6, m7, Value.cells, arr8_set, arr32_set, arr64_set, arrB_set] at hH ⊢
  try simp only [n0, n1, n2, n3, getD_cons_zero, getD_cons_succ, set_cons_zero, set_cons_succ, zero_add, add_zero, mul_one, zero_mul, m2, m3, m4]
  refine plan_p rfl rfl pr_move ?_
  try simp only [n0, n1, n2, n3, getD_cons_zero, getD_cons_succ, set_cons_zero, set_cons_succ, zero_add, add_zero, mul_one, zero_mul, m2, m3, m4]
  refine plan_p rfl rfl (pr_extract rfl rfl) ?_
  try simp only [n0, n1, n2, n3, getD_cons_zero, getD_cons_succ, set_cons_zero, set_cons_succ, zero_add, add_zero, mul_one, zero_mul, m2, m3, m4]
  refine plan_p rfl rfl (pr_extract rfl rfl) ?_
  try simp only [n0, n1, n2, n3, getD_cons_zero, getD_cons_succ, set_cons_zero, set_cons_succ, zero_add, add_zero, mul_one, zero_mul, m2, m3, m4]
  refine plan_p rfl rfl pr_assign ?_
  try simp only [n0, n1, n2, n3, getD_cons_zero, getD_cons_succ, set_cons_zero, set_cons_succ, zero_add, add_zero, mul_one, zero_mul, m2, m3, m4]
  refine plan_p rfl rfl pr_assign ?_
  try simp only [n0, n1, n2, n3, getD_cons_zero, getD_cons_succ, set_cons_zero, set_cons_succ, zero_add, add_zero, mul_one, zero_mul, m2, m3, m4]
  refine plan_nil hH ?_
  clear hH
  intro w43 hH
  refine hK34 _ _ ?_
  try clear hK34 K34
  refine wp_seq_k ?_
  intro K44 hK44
  refine wp_region_text [.p 0, .q 1, .p 2, .p 3, .p 4, .p 5, .p 6, .p 7, .p 8, .p 9, .p 10, .q 11, .p 12, .p 13, .p 14, .p 15, .p 16, .p 17, .p 18, .p 19, .p 20] rfl ?_
  refine plan_p rfl rfl pr_move ?_
  try simp only [n0, n1, n2, n3, getD_cons_zero, getD_cons_succ, set_cons_zero, set_cons_succ, zero_add, add_zero, mul_one, zero_mul, m2, m3, m4]
  refine plan_q rfl rfl (qr_b2s (OwnC.sl hH 3 rfl hO30) rfl Try.underlying27 Try.underlying5 Try.underlying9) ?_
  try simp only [n0, n1, n2, n3, getD_cons_zero, getD_cons_succ, set_cons_zero, set_cons_succ, zero_add, add_zero, mul_one, zero_mul, m2, m3, m4]
  refine plan_p rfl rfl pr_move ?_
  try simp only [n0, n1, n2, n3, getD_cons_zero, getD_cons_succ, set_cons_zero, set_cons_succ, zero_add, add_zero, mul_one, zero_mul, m2, m3, m4]
  refine plan_p rfl rfl (pr_bin rfl rfl bin_eql_s) ?_
  try simp only [n0, n1, n2, n3, getD_cons_zero, getD_cons_succ, set_cons_zero, set_cons_succ, zero_add, add_zero, mul_one, zero_mul, m2, m3, m4]
  refine plan_p (v := BV true) rfl rfl (pr_move_v (by show BV (_ == _) = _; exact congrArg BV (beq_self_eq_true _))) ?_
  try simp only [n0, n1, n2, n3, getD_cons_zero, getD_cons_succ, set_cons_zero, set_cons_succ, zero_add, add_zero, mul_one, zero_mul, m2, m3, m4]
  refine plan_p rfl rfl pr_move ?_
  try simp only [n0, n1, n2, n3, getD_cons_zero, getD_cons_succ, set_cons_zero, set_cons_succ, zero_add, add_zero, mul_one, zero_mul, m2, m3, m4]
  refine plan_p rfl rfl pr_move ?_
  try simp only [n0, n1, n2, n3, getD_cons_zero, getD_cons_succ, set_cons_zero, set_cons_succ, zero_add, add_zero, mul_one, zero_mul, m2, m3, m4]
  refine plan_p rfl rfl (pr_bin rfl rfl (by first | exact bin_eql_n  | exact bin_eql_i)) ?_
  try simp only [n0, n1, n2, n3, getD_cons_zero, getD_cons_succ, set_cons_zero, set_cons_succ, zero_add, add_zero, mul_one, zero_mul, m2, m3, m4]
  refine plan_p rfl rfl (pr_pick_t rfl) ?_
  try simp only [n0, n1, n2, n3, getD_cons_zero, getD_cons_succ, set_cons_zero, set_cons_succ, zero_add, add_zero, mul_one, zero_mul, m2, m3, m4]
  refine plan_p (v := BV true) rfl rfl (pr_move_v rfl) ?_
  try simp only [n0, n1, n2, n3, getD_cons_zero, getD_cons_succ, set_cons_zero, set_cons_succ, zero_add, add_zero, mul_one, zero_mul, m2, m3, m4]
  refine plan_p rfl rfl pr_move ?_
  try simp only [n0, n1, n2, n3, getD_cons_zero, getD_cons_succ, set_cons_zero, set_cons_succ, zero_add, add_zero, mul_one, zero_mul, m2, m3, m4]
  refine plan_q rfl rfl (qr_b2s (OwnC.sl hH 4 rfl hO42) rfl Try.underlying27 Try.underlying5 Try.underlying9) ?_
  try simp only [n0, n1, n2, n3, getD_cons_zero, getD_cons_succ, set_cons_zero, set_cons_succ, zero_add, add_zero, mul_one, zero_mul, m2, m3, m4]
  refine plan_p rfl rfl pr_move ?_
  try simp only [n0, n1, n2, n3, getD_cons_zero, getD_cons_succ, set_cons_zero, set_cons_succ, zero_add, add_zero, mul_one, zero_mul, m2, m3, m4]
  refine plan_p rfl rfl (pr_bin rfl rfl bin_eql_s) ?_
  try simp only [n0, n1, n2, n3, getD_cons_zero, getD_cons_succ, set_cons_zero, set_cons_succ, zero_add, add_zero, mul_one, zero_mul, m2, m3, m4]
  refine plan_p rfl rfl (pr_pick_t rfl) ?_
  try simp only [n0, n1, n2, n3, getD_cons_zero, getD_cons_succ, set_cons_zero, set_cons_succ, zero_add, add_zero, mul_one, zero_mul, m2, m3, m4]
  refine plan_p (v := BV true) rfl rfl (pr_move_v (by show BV (_ == _) = _; exact congrArg BV (beq_self_eq_true _))) ?_
  try simp only [n0, n1, n2, n3, getD_cons_zero, getD_cons_succ, set_cons_zero, set_cons_succ, zero_add, add_zero, mul_one, zero_mul, m2, m3, m4]
  refine plan_p rfl rfl pr_move ?_
  try simp only [n0, n1, n2, n3, getD_cons_zero, getD_cons_succ, set_cons_zero, set_cons_succ, zero_add, add_zero, mul_one, zero_mul, m2, m3, m4]
  refine plan_p rfl rfl pr_move ?_
  try simp only [n0, n1, n2, n3, getD_cons_zero, getD_cons_succ, set_cons_zero, set_cons_succ, zero_add, add_zero, mul_one, zero_mul, m2, m3, m4]
  refine plan_p rfl rfl (pr_bin rfl rfl (by first | exact bin_eql_n  | exact bin_eql_i)) ?_
  try simp only [n0, n1, n2, n3, getD_cons_zero, getD_cons_succ, set_cons_zero, set_cons_succ, zero_add, add_zero, mul_one, zero_mul, m2, m3, m4]
  refine plan_p rfl rfl (pr_pick_t rfl) ?_
  try simp only [n0, n1, n2, n3, getD_cons_zero, getD_cons_succ, set_cons_zero, set_cons_succ, zero_add, add_zero, mul_one, zero_mul, m2, m3, m4]
  refine plan_p rfl rfl pr_assign ?_
  try simp only [n0, n1, n2, n3, getD_cons_zero, getD_cons_succ, set_cons_zero, set_cons_succ, zero_add, add_zero, mul_one, zero_mul, m2, m3, m4]
  refine plan_nil hH ?_
  clear hH
  intro w45 hH
  refine hK44 _ _ ?_
  try clear hK44 K44
  refine wp_ret ?_
  try simp only [Exit.then, Exit.inBlock, ↓reduceIte, Nat.reduceEqDiff]
  refine BP.ret1 rfl rfl ?_
  exact ⟨rfl, hH.chg⟩

theorem gcmseal_calls (f : Nat → UInt8) (nv av bv : Value) (nl al bl : List UInt8) (w : World) (hn : Sl w nv nl) (ha : Sl w av al) (hb : Sl w bv bl) (hnl : nl.length ≤ reachBytes) : Ret Try.prog 11 #[.agg (letterC f nv av bv)] w fun v w' => v = BV true ∧ Chg [] w w' := by
  by_cases hl : nl.length = 12
  · by_cases h16 : (bl.take (min bl.length 120)).length < 16
    · exact gcmseal_short f nv av bv nl al bl w hn ha hb hnl hl h16
    · by_cases he : sealL (kexp fun i => ((List.range 16).map fun i => f i).getD i 0) (hP (kexp fun i => ((List.range 16).map fun i => f i).getD i 0)) nl (al.take (min al.length 120)) ((bl.take (min bl.length 120)).take ((bl.take (min bl.length 120)).length - 16)) = (bl.take (min bl.length 120)).drop ((bl.take (min bl.length 120)).length - 16)
      · exact gcmseal_right f nv av bv nl al bl w hn ha hb hnl hl (by omega) he
      · exact gcmseal_wrong f nv av bv nl al bl w hn ha hb hnl hl (by omega) he
  · exact gcmseal_nonce f nv av bv nl al bl w hn ha hb hnl hl

end Go.Proofs.Ytjbohfonjalfnaa
