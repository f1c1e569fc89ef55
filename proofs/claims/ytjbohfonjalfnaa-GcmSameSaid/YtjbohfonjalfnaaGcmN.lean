/- Walks of the law GcmSame, case by case. No conditions but the cases. -/
import Derived.Test.YtjbohfonjalfnaaGcmL
set_option linter.unusedSimpArgs false
set_option linter.unusedVariables false
set_option maxRecDepth 100000
set_option maxHeartbeats 4000000
namespace Go.Proofs.Ytjbohfonjalfnaa
open Go
open List (getD_cons_zero getD_cons_succ set_cons_zero set_cons_succ)
open Nat (zero_add add_zero mul_one zero_mul)

theorem gcmsame_key (a b : Value) (al bl : List UInt8) (w : World) (ha : Sl w a al) (hb : Sl w b bl) (hal : al.length < 9223372036854775808) (hbl : bl.length < 9223372036854775808) (h16 : al.length = 16) (h12 : al.length ≠ 12) : Ret Try.prog 14 #[a, b] w fun v w' => v = BV true ∧ Chg [] w w' := by
  refine Ret.enter Try.func14 rfl ?_
  simp only [Try.ntmps14, List.size_toArray, List.length_cons, List.length_nil, Nat.reduceAdd, Nat.reduceSub, frame_enter, List.replicate_succ, List.replicate_zero, List.nil_append, List.cons_append]
  have hH := Hp.start [] w
  refine wp_seq_k ?_
  intro K1 hK1
  refine wp_region_text [.p 0] rfl ?_
  refine plan_p rfl rfl pr_assign ?_
  try simp only [n0, n1, n2, n3, getD_cons_zero, getD_cons_succ, set_cons_zero, set_cons_succ, zero_add, add_zero, mul_one, zero_mul, m2, m3, m4]
  refine plan_nil hH ?_
  clear hH
  intro w2 hH
  refine hK1 _ _ ?_
  try clear hK1 K1
  refine wp_seq_k ?_
  intro K3 hK3
  refine wp_region_text [.p 0, .x 1, .p 2, .p 3, .p 4, .p 5, .p 6] rfl ?_
  refine plan_p rfl rfl pr_move ?_
  try simp only [n0, n1, n2, n3, getD_cons_zero, getD_cons_succ, set_cons_zero, set_cons_succ, zero_add, add_zero, mul_one, zero_mul, m2, m3, m4]
  refine plan_callx rfl rfl hH cf23 (fun w' hH => gnew_calls _ _ w' (ha.chg hH.chg) h16) rfl (fun _ _ _ h => by obtain ⟨_, _, _, hg, _⟩ := h; exact hg) ?_
  clear hH
  intro w4 v5 w6 hH hp7
  obtain ⟨b8, b9, rfl, hg, hfc, hbc, hfx, hbx, hne⟩ := hp7
  replace hH := hH.callnew2 hg hbc hfc hbx hfx hne
  clear hg hfc hbc hfx hbx hne
  try simp only [n0, n1, n2, n3, getD_cons_zero, getD_cons_succ, set_cons_zero, set_cons_succ, zero_add, add_zero, mul_one, zero_mul, m2, m3, m4, m5, m6, m7, Value.cells, arr8_set, arr32_set, arr64_set, arrB_set] at hH ⊢
  try simp only [n0, n1, n2, n3, getD_cons_zero, getD_cons_succ, set_cons_zero, set_cons_succ, zero_add, add_zero, mul_one, zero_mul, m2, m3, m4]
  refine plan_p rfl rfl pr_move ?_
  try simp only [n0, n1, n2, n3, getD_cons_zero, getD_cons_succ, set_cons_zero, set_cons_succ, zero_add, add_zero, mul_one, zero_mul, m2, m3, m4]
  refine plan_p rfl rfl (pr_extract rfl rfl) ?_
  try simp only [n0, n1, n2, n3, getD_cons_zero, getD_cons_succ, set_cons_zero, set_cons_succ, zero_add, add_zero, mul_one, zero_mul, m2, m3, m4]
  refine plan_p rfl rfl (pr_extract rfl rfl) ?_
  try simp only [n0, n1, n2, n3, getD_cons_zero, getD_cons_succ, set_cons_zero, set_cons_succ, zero_add, add_zero, mul_one, zero_mul, m2, m3, m4]
  refine plan_p rfl rfl pr_assign ?_
  try simp only [n0, n1, n2, n3, getD_cons_zero, getD_cons_succ, set_cons_zero, set_cons_succ, zero_add, add_zero, mul_one, zero_mul, m2, m3, m4]
  refine plan_p rfl rfl pr_assign ?_
  try simp only [n0, n1, n2, n3, getD_cons_zero, getD_cons_succ, set_cons_zero, set_cons_succ, zero_add, add_zero, mul_one, zero_mul, m2, m3, m4]
  refine plan_nil hH ?_
  clear hH
  intro w10 hH
  refine hK3 _ _ ?_
  try clear hK3 K3
  refine wp_seq_k ?_
  intro K11 hK11
  refine wp_seq_k ?_
  intro K12 hK12
  refine wp_region_plan [.q 0, .p 1, .p 2, .p 3, .p 4, .p 6, .p 8, .q 5, .q 7, .q 9, .p 10, .p 11, .p 12, .p 13, .p 14, .p 15, .q 16, .p 17, .p 18, .p 19, .p 20, .p 21, .p 22, .p 23, .p 24, .p 25, .p 26, .p 27, .p 28, .p 29, .p 30, .p 31, .p 32, .p 33] (by kernel_rfl) (by kernel_rfl) (by kernel_rfl) (by kernel_rfl) (fun _ _ _ _ _ h => by first | exact h | exact BP.panic _ _ _ _ _ h) ?_
  refine plan_q rfl rfl (qr_call cf24 (fun w' hw => sealed_calls w') rfl) ?_
  try simp only [n0, n1, n2, n3, getD_cons_zero, getD_cons_succ, set_cons_zero, set_cons_succ, zero_add, add_zero, mul_one, zero_mul, m2, m3, m4]
  refine plan_p rfl rfl (pr_not rfl) ?_
  try simp only [n0, n1, n2, n3, getD_cons_zero, getD_cons_succ, set_cons_zero, set_cons_succ, zero_add, add_zero, mul_one, zero_mul, m2, m3, m4]
  refine plan_p (v := BV false) rfl rfl (pr_move_v rfl) ?_
  try simp only [n0, n1, n2, n3, getD_cons_zero, getD_cons_succ, set_cons_zero, set_cons_succ, zero_add, add_zero, mul_one, zero_mul, m2, m3, m4]
  refine plan_p rfl rfl pr_move ?_
  try simp only [n0, n1, n2, n3, getD_cons_zero, getD_cons_succ, set_cons_zero, set_cons_succ, zero_add, add_zero, mul_one, zero_mul, m2, m3, m4]
  refine plan_p rfl rfl pr_move ?_
  try simp only [n0, n1, n2, n3, getD_cons_zero, getD_cons_succ, set_cons_zero, set_cons_succ, zero_add, add_zero, mul_one, zero_mul, m2, m3, m4]
  refine plan_p rfl rfl pr_move ?_
  try simp only [n0, n1, n2, n3, getD_cons_zero, getD_cons_succ, set_cons_zero, set_cons_succ, zero_add, add_zero, mul_one, zero_mul, m2, m3, m4]
  refine plan_p rfl rfl pr_move ?_
  try simp only [n0, n1, n2, n3, getD_cons_zero, getD_cons_succ, set_cons_zero, set_cons_succ, zero_add, add_zero, mul_one, zero_mul, m2, m3, m4]
  refine plan_q rfl rfl (qr_call cf34 (fun w' hw => same_calls _ _ _ _ w' hal ((ha.chg hH.chg).chg hw) ((hb.chg hH.chg).chg hw)) rfl) ?_
  try simp only [n0, n1, n2, n3, getD_cons_zero, getD_cons_succ, set_cons_zero, set_cons_succ, zero_add, add_zero, mul_one, zero_mul, m2, m3, m4]
  refine plan_q rfl rfl (qr_b2s (ha.chg hH.chg) rfl Try.underlying27 Try.underlying5 Try.underlying9) ?_
  try simp only [n0, n1, n2, n3, getD_cons_zero, getD_cons_succ, set_cons_zero, set_cons_succ, zero_add, add_zero, mul_one, zero_mul, m2, m3, m4]
  refine plan_q rfl rfl (qr_b2s (hb.chg hH.chg) rfl Try.underlying27 Try.underlying5 Try.underlying9) ?_
  try simp only [n0, n1, n2, n3, getD_cons_zero, getD_cons_succ, set_cons_zero, set_cons_succ, zero_add, add_zero, mul_one, zero_mul, m2, m3, m4]
  refine plan_p rfl rfl (pr_bin rfl rfl bin_eql_s) ?_
  try simp only [n0, n1, n2, n3, getD_cons_zero, getD_cons_succ, set_cons_zero, set_cons_succ, zero_add, add_zero, mul_one, zero_mul, m2, m3, m4]
  refine plan_p rfl rfl (pr_bin rfl rfl (bin_neq_b Try.underlying4)) ?_
  try simp only [n0, n1, n2, n3, getD_cons_zero, getD_cons_succ, set_cons_zero, set_cons_succ, zero_add, add_zero, mul_one, zero_mul, m2, m3, m4]
  refine plan_p rfl rfl (pr_pick_f rfl) ?_
  try simp only [n0, n1, n2, n3, getD_cons_zero, getD_cons_succ, set_cons_zero, set_cons_succ, zero_add, add_zero, mul_one, zero_mul, m2, m3, m4]
  refine plan_p (v := BV false) rfl rfl (pr_move_v (by show BV (!((al == bl) == (al == bl))) = _; rw [beq_self_eq_true]; rfl)) ?_
  try simp only [n0, n1, n2, n3, getD_cons_zero, getD_cons_succ, set_cons_zero, set_cons_succ, zero_add, add_zero, mul_one, zero_mul, m2, m3, m4]
  refine plan_p rfl rfl pr_move ?_
  try simp only [n0, n1, n2, n3, getD_cons_zero, getD_cons_succ, set_cons_zero, set_cons_succ, zero_add, add_zero, mul_one, zero_mul, m2, m3, m4]
  refine plan_p rfl rfl pr_move ?_
  try simp only [n0, n1, n2, n3, getD_cons_zero, getD_cons_succ, set_cons_zero, set_cons_succ, zero_add, add_zero, mul_one, zero_mul, m2, m3, m4]
  refine plan_q rfl rfl (qr_call cf34 (fun w' hw => same_calls _ _ _ _ w' hal ((ha.chg hH.chg).chg hw) ((ha.chg hH.chg).chg hw)) rfl) ?_
  try simp only [n0, n1, n2, n3, getD_cons_zero, getD_cons_succ, set_cons_zero, set_cons_succ, zero_add, add_zero, mul_one, zero_mul, m2, m3, m4]
  refine plan_p rfl rfl (pr_not rfl) ?_
  try simp only [n0, n1, n2, n3, getD_cons_zero, getD_cons_succ, set_cons_zero, set_cons_succ, zero_add, add_zero, mul_one, zero_mul, m2, m3, m4]
  refine plan_p rfl rfl (pr_pick_f rfl) ?_
  try simp only [n0, n1, n2, n3, getD_cons_zero, getD_cons_succ, set_cons_zero, set_cons_succ, zero_add, add_zero, mul_one, zero_mul, m2, m3, m4]
  refine plan_p (v := BV false) rfl rfl (pr_move_v (by show BV (!(al == al)) = _; rw [beq_self_eq_true]; rfl)) ?_
  try simp only [n0, n1, n2, n3, getD_cons_zero, getD_cons_succ, set_cons_zero, set_cons_succ, zero_add, add_zero, mul_one, zero_mul, m2, m3, m4]
  refine plan_p rfl rfl pr_move ?_
  try simp only [n0, n1, n2, n3, getD_cons_zero, getD_cons_succ, set_cons_zero, set_cons_succ, zero_add, add_zero, mul_one, zero_mul, m2, m3, m4]
  refine plan_p rfl rfl (pr_bin rfl rfl (by first | exact bin_eql_n (n := 0)  | exact bin_eql_i)) ?_
  try simp only [n0, n1, n2, n3, getD_cons_zero, getD_cons_succ, set_cons_zero, set_cons_succ, zero_add, add_zero, mul_one, zero_mul, m2, m3, m4]
  refine plan_p rfl rfl pr_move ?_
  try simp only [n0, n1, n2, n3, getD_cons_zero, getD_cons_succ, set_cons_zero, set_cons_succ, zero_add, add_zero, mul_one, zero_mul, m2, m3, m4]
  refine plan_p rfl rfl (pr_len_Sl (ha.chg hH.chg) rfl Try.underlying27) ?_
  try simp only [n0, n1, n2, n3, getD_cons_zero, getD_cons_succ, set_cons_zero, set_cons_succ, zero_add, add_zero, mul_one, zero_mul, m2, m3, m4]
  refine plan_p rfl rfl (pr_bin rfl rfl (by first | exact bin_eql_n (n := 16)  | exact bin_eql_i)) ?_
  try simp only [n0, n1, n2, n3, getD_cons_zero, getD_cons_succ, set_cons_zero, set_cons_succ, zero_add, add_zero, mul_one, zero_mul, m2, m3, m4]
  refine plan_p rfl rfl (pr_bin rfl rfl (bin_neq_b Try.underlying4)) ?_
  try simp only [n0, n1, n2, n3, getD_cons_zero, getD_cons_succ, set_cons_zero, set_cons_succ, zero_add, add_zero, mul_one, zero_mul, m2, m3, m4]
  refine plan_p rfl rfl (pr_pick_f rfl) ?_
  try simp only [n0, n1, n2, n3, getD_cons_zero, getD_cons_succ, set_cons_zero, set_cons_succ, zero_add, add_zero, mul_one, zero_mul, m2, m3, m4]
  refine plan_p (v := BV false) rfl rfl (pr_move_v (by show BV (!(_ == (al.length == 16))) = _; rw [h16]; rfl)) ?_
  try simp only [n0, n1, n2, n3, getD_cons_zero, getD_cons_succ, set_cons_zero, set_cons_succ, zero_add, add_zero, mul_one, zero_mul, m2, m3, m4]
  refine plan_p rfl rfl pr_move ?_
  try simp only [n0, n1, n2, n3, getD_cons_zero, getD_cons_succ, set_cons_zero, set_cons_succ, zero_add, add_zero, mul_one, zero_mul, m2, m3, m4]
  refine plan_p rfl rfl (pr_bin rfl rfl (bin_neq_pn Try.underlying49)) ?_
  try simp only [n0, n1, n2, n3, getD_cons_zero, getD_cons_succ, set_cons_zero, set_cons_succ, zero_add, add_zero, mul_one, zero_mul, m2, m3, m4]
  refine plan_p rfl rfl pr_move ?_
  try simp only [n0, n1, n2, n3, getD_cons_zero, getD_cons_succ, set_cons_zero, set_cons_succ, zero_add, add_zero, mul_one, zero_mul, m2, m3, m4]
  refine plan_p rfl rfl (pr_bin rfl rfl (by first | exact bin_eql_n (n := 0)  | exact bin_eql_i)) ?_
  try simp only [n0, n1, n2, n3, getD_cons_zero, getD_cons_succ, set_cons_zero, set_cons_succ, zero_add, add_zero, mul_one, zero_mul, m2, m3, m4]
  refine plan_p rfl rfl (pr_bin rfl rfl (bin_neq_b Try.underlying4)) ?_
  try simp only [n0, n1, n2, n3, getD_cons_zero, getD_cons_succ, set_cons_zero, set_cons_succ, zero_add, add_zero, mul_one, zero_mul, m2, m3, m4]
  refine plan_p rfl rfl (pr_pick_f rfl) ?_
  try simp only [n0, n1, n2, n3, getD_cons_zero, getD_cons_succ, set_cons_zero, set_cons_succ, zero_add, add_zero, mul_one, zero_mul, m2, m3, m4]
  refine plan_nil hH ?_
  clear hH
  intro w13 hH
  refine hK12 _ _ ?_
  try clear hK12 K12
  refine wp_cond_false rfl ?_
  refine wp_skip ?_
  refine hK11 _ _ ?_
  try clear hK11 K11
  refine wp_seq_k ?_
  intro K14 hK14
  refine wp_region_text [.x 0, .x 1, .p 2, .p 3, .p 4, .p 5, .p 6] rfl ?_
  refine plan_make (n := 16) (c := 16) rfl rfl hH rfl rfl Try.underlying27 sz5 bz5 ze5 rfl (by omega) (by omega) (by omega) ?_
  clear hH
  intro b15 w16 hH
  try simp only [n0, n1, n2, n3, getD_cons_zero, getD_cons_succ, set_cons_zero, set_cons_succ, zero_add, add_zero, mul_one, zero_mul, m2, m3, m4] at hH ⊢
  rw [made_arr8] at hH
  try simp only [n0, n1, n2, n3, getD_cons_zero, getD_cons_succ, set_cons_zero, set_cons_succ, zero_add, add_zero, mul_one, zero_mul, m2, m3, m4, m5, m6, m7, Value.cells, arr8_set, arr32_set, arr64_set, arrB_set] at hH ⊢
  refine plan_callx rfl rfl hH cf23 (fun w' hH => gnew_calls _ _ w' (OwnC.sl hH 2 rfl OwnC.made) (by simp)) rfl (fun _ _ _ h => by obtain ⟨_, _, _, hg, _⟩ := h; exact hg) ?_
  clear hH
  intro w17 v18 w19 hH hp20
  obtain ⟨b21, b22, rfl, hg, hfc, hbc, hfx, hbx, hne⟩ := hp20
  replace hH := hH.callnew2 hg hbc hfc hbx hfx hne
  clear hg hfc hbc hfx hbx hne
  try simp only [n0, n1, n2, n3, getD_cons_zero, getD_cons_succ, set_cons_zero, set_cons_succ, zero_add, add_zero, mul_one, zero_mul, m2, m3, m4, m5, m6, m7, Value.cells, arr8_set, arr32_set, arr64_set, arrB_set] at hH ⊢
  try simp only [n0, n1, n2, n3, getD_cons_zero, getD_cons_succ, set_cons_zero, set_cons_succ, zero_add, add_zero, mul_one, zero_mul, m2, m3, m4]
  refine plan_p rfl rfl pr_move ?_
  try simp only [n0, n1, n2, n3, getD_cons_zero, getD_cons_succ, set_cons_zero, set_cons_succ, zero_add, add_zero, mul_one, zero_mul, m2, m3, m4]
  refine plan_p rfl rfl (pr_extract rfl rfl) ?_
  try simp only [n0, n1, n2, n3, getD_cons_zero, getD_cons_succ, set_cons_zero, set_cons_succ, zero_add, add_zero, mul_one, zero_mul, m2, m3, m4]
  refine plan_p rfl rfl (pr_extract rfl rfl) ?_
  try simp only [n0, n1, n2, n3, getD_cons_zero, getD_cons_succ, set_cons_zero, set_cons_succ, zero_add, add_zero, mul_one, zero_mul, m2, m3, m4]
  refine plan_p rfl rfl pr_assign ?_
  try simp only [n0, n1, n2, n3, getD_cons_zero, getD_cons_succ, set_cons_zero, set_cons_succ, zero_add, add_zero, mul_one, zero_mul, m2, m3, m4]
  refine plan_p rfl rfl pr_assign ?_
  try simp only [n0, n1, n2, n3, getD_cons_zero, getD_cons_succ, set_cons_zero, set_cons_succ, zero_add, add_zero, mul_one, zero_mul, m2, m3, m4]
  refine plan_nil hH ?_
  clear hH
  intro w23 hH
  refine hK14 _ _ ?_
  try clear hK14 K14
  refine wp_seq_k ?_
  intro K24 hK24
  refine wp_seq_k ?_
  intro K25 hK25
  refine wp_region_text [.p 0, .p 1] rfl ?_
  refine plan_p rfl rfl pr_move ?_
  try simp only [n0, n1, n2, n3, getD_cons_zero, getD_cons_succ, set_cons_zero, set_cons_succ, zero_add, add_zero, mul_one, zero_mul, m2, m3, m4]
  refine plan_p rfl rfl (pr_bin rfl rfl (by first | exact bin_neq_n (n := 0)  | exact bin_neq_i)) ?_
  try simp only [n0, n1, n2, n3, getD_cons_zero, getD_cons_succ, set_cons_zero, set_cons_succ, zero_add, add_zero, mul_one, zero_mul, m2, m3, m4]
  refine plan_nil hH ?_
  clear hH
  intro w26 hH
  refine hK25 _ _ ?_
  try clear hK25 K25
  refine wp_cond_false rfl ?_
  refine wp_skip ?_
  refine hK24 _ _ ?_
  try clear hK24 K24
  refine wp_seq_k ?_
  intro K27 hK27
  refine wp_region_text [.p 0, .p 1, .q 2, .p 3, .p 4, .p 5, .p 6, .p 7] rfl ?_
  refine plan_p rfl rfl pr_move ?_
  try simp only [n0, n1, n2, n3, getD_cons_zero, getD_cons_succ, set_cons_zero, set_cons_succ, zero_add, add_zero, mul_one, zero_mul, m2, m3, m4]
  refine plan_p rfl rfl pr_move ?_
  try simp only [n0, n1, n2, n3, getD_cons_zero, getD_cons_succ, set_cons_zero, set_cons_succ, zero_add, add_zero, mul_one, zero_mul, m2, m3, m4]
  refine plan_q rfl rfl (qr_call cf26 (fun w' hw => Seal_nonce _ _ _ _ _ _ w' ((ha.chg hH.chg).chg hw) h12 (Sl.nil.chg hw) (by simp)) rfl) ?_
  try simp only [n0, n1, n2, n3, getD_cons_zero, getD_cons_succ, set_cons_zero, set_cons_succ, zero_add, add_zero, mul_one, zero_mul, m2, m3, m4]
  refine plan_p rfl rfl pr_move ?_
  try simp only [n0, n1, n2, n3, getD_cons_zero, getD_cons_succ, set_cons_zero, set_cons_succ, zero_add, add_zero, mul_one, zero_mul, m2, m3, m4]
  refine plan_p rfl rfl (pr_extract rfl rfl) ?_
  try simp only [n0, n1, n2, n3, getD_cons_zero, getD_cons_succ, set_cons_zero, set_cons_succ, zero_add, add_zero, mul_one, zero_mul, m2, m3, m4]
  refine plan_p rfl rfl (pr_extract rfl rfl) ?_
  try simp only [n0, n1, n2, n3, getD_cons_zero, getD_cons_succ, set_cons_zero, set_cons_succ, zero_add, add_zero, mul_one, zero_mul, m2, m3, m4]
  refine plan_p rfl rfl pr_assign ?_
  try simp only [n0, n1, n2, n3, getD_cons_zero, getD_cons_succ, set_cons_zero, set_cons_succ, zero_add, add_zero, mul_one, zero_mul, m2, m3, m4]
  refine plan_p rfl rfl pr_assign ?_
  try simp only [n0, n1, n2, n3, getD_cons_zero, getD_cons_succ, set_cons_zero, set_cons_succ, zero_add, add_zero, mul_one, zero_mul, m2, m3, m4]
  refine plan_nil hH ?_
  clear hH
  intro w28 hH
  refine hK27 _ _ ?_
  try clear hK27 K27
  refine wp_seq_k ?_
  intro K29 hK29
  refine wp_region_text [.p 0, .p 1, .x 2, .q 3, .p 4, .p 5, .p 6, .p 7, .p 8] rfl ?_
  refine plan_p rfl rfl pr_move ?_
  try simp only [n0, n1, n2, n3, getD_cons_zero, getD_cons_succ, set_cons_zero, set_cons_succ, zero_add, add_zero, mul_one, zero_mul, m2, m3, m4]
  refine plan_p rfl rfl pr_move ?_
  try simp only [n0, n1, n2, n3, getD_cons_zero, getD_cons_succ, set_cons_zero, set_cons_succ, zero_add, add_zero, mul_one, zero_mul, m2, m3, m4]
  refine plan_make (n := 16) (c := 16) rfl rfl hH rfl rfl Try.underlying27 sz5 bz5 ze5 rfl (by omega) (by omega) (by omega) ?_
  clear hH
  intro b30 w31 hH
  try simp only [n0, n1, n2, n3, getD_cons_zero, getD_cons_succ, set_cons_zero, set_cons_succ, zero_add, add_zero, mul_one, zero_mul, m2, m3, m4] at hH ⊢
  rw [made_arr8] at hH
  try simp only [n0, n1, n2, n3, getD_cons_zero, getD_cons_succ, set_cons_zero, set_cons_succ, zero_add, add_zero, mul_one, zero_mul, m2, m3, m4, m5, m6, m7, Value.cells, arr8_set, arr32_set, arr64_set, arrB_set] at hH ⊢
  refine plan_q rfl rfl (qr_call cf32 (fun w' hw => Open_nonce _ _ _ _ _ _ w' ((ha.chg hH.chg).chg hw) h12 ((OwnC.sl hH 5 rfl OwnC.made).chg hw) (by simp)) rfl) ?_
  try simp only [n0, n1, n2, n3, getD_cons_zero, getD_cons_succ, set_cons_zero, set_cons_succ, zero_add, add_zero, mul_one, zero_mul, m2, m3, m4]
  refine plan_p rfl rfl pr_move ?_
  try simp only [n0, n1, n2, n3, getD_cons_zero, getD_cons_succ, set_cons_zero, set_cons_succ, zero_add, add_zero, mul_one, zero_mul, m2, m3, m4]
  refine plan_p rfl rfl (pr_extract rfl rfl) ?_
  try simp only [n0, n1, n2, n3, getD_cons_zero, getD_cons_succ, set_cons_zero, set_cons_succ, zero_add, add_zero, mul_one, zero_mul, m2, m3, m4]
  refine plan_p rfl rfl (pr_extract rfl rfl) ?_
  try simp only [n0, n1, n2, n3, getD_cons_zero, getD_cons_succ, set_cons_zero, set_cons_succ, zero_add, add_zero, mul_one, zero_mul, m2, m3, m4]
  refine plan_p rfl rfl pr_assign ?_
  try simp only [n0, n1, n2, n3, getD_cons_zero, getD_cons_succ, set_cons_zero, set_cons_succ, zero_add, add_zero, mul_one, zero_mul, m2, m3, m4]
  refine plan_p rfl rfl pr_assign ?_
  try simp only [n0, n1, n2, n3, getD_cons_zero, getD_cons_succ, set_cons_zero, set_cons_succ, zero_add, add_zero, mul_one, zero_mul, m2, m3, m4]
  refine plan_nil hH ?_
  clear hH
  intro w32 hH
  refine hK29 _ _ ?_
  try clear hK29 K29
  refine wp_seq_k ?_
  intro K33 hK33
  refine wp_region_plan [.p 0, .p 2, .p 3, .p 4, .p 5, .p 6, .x 1, .q 7, .p 8, .p 9, .p 10, .p 11, .p 12] (by kernel_rfl) (by kernel_rfl) (by kernel_rfl) (by kernel_rfl) (fun _ _ _ _ _ h => by first | exact h | exact BP.panic _ _ _ _ _ h) ?_
  refine plan_p rfl rfl pr_move ?_
  try simp only [n0, n1, n2, n3, getD_cons_zero, getD_cons_succ, set_cons_zero, set_cons_succ, zero_add, add_zero, mul_one, zero_mul, m2, m3, m4]
  refine plan_p rfl rfl pr_move ?_
  try simp only [n0, n1, n2, n3, getD_cons_zero, getD_cons_succ, set_cons_zero, set_cons_succ, zero_add, add_zero, mul_one, zero_mul, m2, m3, m4]
  refine plan_p rfl rfl pr_move ?_
  try simp only [n0, n1, n2, n3, getD_cons_zero, getD_cons_succ, set_cons_zero, set_cons_succ, zero_add, add_zero, mul_one, zero_mul, m2, m3, m4]
  refine plan_p rfl rfl (pr_len_Sl (hb.chg hH.chg) rfl Try.underlying27) ?_
  try simp only [n0, n1, n2, n3, getD_cons_zero, getD_cons_succ, set_cons_zero, set_cons_succ, zero_add, add_zero, mul_one, zero_mul, m2, m3, m4]
  refine plan_p rfl rfl (by first | exact pr_min_n (n := 15) rfl rfl | exact pr_min rfl rfl) ?_
  try simp only [n0, n1, n2, n3, getD_cons_zero, getD_cons_succ, set_cons_zero, set_cons_succ, zero_add, add_zero, mul_one, zero_mul, m2, m3, m4]
  refine plan_p rfl rfl (pr_slice_Sl_h (hb.chg hH.chg) rfl rfl Try.underlying27 sz5 (by omega)) ?_
  try simp only [n0, n1, n2, n3, getD_cons_zero, getD_cons_succ, set_cons_zero, set_cons_succ, zero_add, add_zero, mul_one, zero_mul, m2, m3, m4]
  refine plan_make (n := 12) (c := 12) rfl rfl hH rfl rfl Try.underlying27 sz5 bz5 ze5 rfl (by omega) (by omega) (by omega) ?_
  clear hH
  intro b34 w35 hH
  try simp only [n0, n1, n2, n3, getD_cons_zero, getD_cons_succ, set_cons_zero, set_cons_succ, zero_add, add_zero, mul_one, zero_mul, m2, m3, m4] at hH ⊢
  rw [made_arr8] at hH
  try simp only [n0, n1, n2, n3, getD_cons_zero, getD_cons_succ, set_cons_zero, set_cons_succ, zero_add, add_zero, mul_one, zero_mul, m2, m3, m4, m5, m6, m7, Value.cells, arr8_set, arr32_set, arr64_set, arrB_set] at hH ⊢
  refine plan_q rfl rfl (qr_call cf32 (fun w' hw => Open_short _ _ _ _ _ _ w' ((OwnC.sl hH 6 rfl OwnC.made).chg hw) (by simp) ((Sl.cuth (hb.chg hH.chg) (by omega)).chg hw) (by simp; omega)) rfl) ?_
  try simp only [n0, n1, n2, n3, getD_cons_zero, getD_cons_succ, set_cons_zero, set_cons_succ, zero_add, add_zero, mul_one, zero_mul, m2, m3, m4]
  refine plan_p rfl rfl pr_move ?_
  try simp only [n0, n1, n2, n3, getD_cons_zero, getD_cons_succ, set_cons_zero, set_cons_succ, zero_add, add_zero, mul_one, zero_mul, m2, m3, m4]
  refine plan_p rfl rfl (pr_extract rfl rfl) ?_
  try simp only [n0, n1, n2, n3, getD_cons_zero, getD_cons_succ, set_cons_zero, set_cons_succ, zero_add, add_zero, mul_one, zero_mul, m2, m3, m4]
  refine plan_p rfl rfl (pr_extract rfl rfl) ?_
  try simp only [n0, n1, n2, n3, getD_cons_zero, getD_cons_succ, set_cons_zero, set_cons_succ, zero_add, add_zero, mul_one, zero_mul, m2, m3, m4]
  refine plan_p rfl rfl pr_assign ?_
  try simp only [n0, n1, n2, n3, getD_cons_zero, getD_cons_succ, set_cons_zero, set_cons_succ, zero_add, add_zero, mul_one, zero_mul, m2, m3, m4]
  refine plan_p rfl rfl pr_assign ?_
  try simp only [n0, n1, n2, n3, getD_cons_zero, getD_cons_succ, set_cons_zero, set_cons_succ, zero_add, add_zero, mul_one, zero_mul, m2, m3, m4]
  refine plan_nil hH ?_
  clear hH
  intro w36 hH
  refine hK33 _ _ ?_
  try clear hK33 K33
  refine wp_seq_k ?_
  intro K37 hK37
  refine wp_region_text [.p 0, .p 1, .p 2, .p 3, .p 4, .p 5, .p 6, .p 7, .p 8, .p 9, .p 10, .p 11, .p 12, .p 13, .p 14, .p 15, .p 16, .p 17, .p 18] rfl ?_
  refine plan_p rfl rfl pr_move ?_
  try simp only [n0, n1, n2, n3, getD_cons_zero, getD_cons_succ, set_cons_zero, set_cons_succ, zero_add, add_zero, mul_one, zero_mul, m2, m3, m4]
  refine plan_p rfl rfl (pr_bin rfl rfl (by first | exact bin_eql_n (n := 1)  | exact bin_eql_i)) ?_
  try simp only [n0, n1, n2, n3, getD_cons_zero, getD_cons_succ, set_cons_zero, set_cons_succ, zero_add, add_zero, mul_one, zero_mul, m2, m3, m4]
  refine plan_p rfl rfl pr_move ?_
  try simp only [n0, n1, n2, n3, getD_cons_zero, getD_cons_succ, set_cons_zero, set_cons_succ, zero_add, add_zero, mul_one, zero_mul, m2, m3, m4]
  refine plan_p rfl rfl (pr_len_Sl (ha.chg hH.chg) rfl Try.underlying27) ?_
  try simp only [n0, n1, n2, n3, getD_cons_zero, getD_cons_succ, set_cons_zero, set_cons_succ, zero_add, add_zero, mul_one, zero_mul, m2, m3, m4]
  refine plan_p rfl rfl (pr_bin rfl rfl (by first | exact bin_neq_n (n := 12)  | exact bin_neq_i)) ?_
  try simp only [n0, n1, n2, n3, getD_cons_zero, getD_cons_succ, set_cons_zero, set_cons_succ, zero_add, add_zero, mul_one, zero_mul, m2, m3, m4]
  refine plan_p rfl rfl (pr_bin rfl rfl (bin_eql_b Try.underlying4)) ?_
  try simp only [n0, n1, n2, n3, getD_cons_zero, getD_cons_succ, set_cons_zero, set_cons_succ, zero_add, add_zero, mul_one, zero_mul, m2, m3, m4]
  refine plan_p (v := BV true) rfl rfl (pr_move_v (by show BV (_ == (al.length != 12)) = _; rw [bne_iff_ne.2 h12]; rfl)) ?_
  try simp only [n0, n1, n2, n3, getD_cons_zero, getD_cons_succ, set_cons_zero, set_cons_succ, zero_add, add_zero, mul_one, zero_mul, m2, m3, m4]
  refine plan_p rfl rfl pr_move ?_
  try simp only [n0, n1, n2, n3, getD_cons_zero, getD_cons_succ, set_cons_zero, set_cons_succ, zero_add, add_zero, mul_one, zero_mul, m2, m3, m4]
  refine plan_p rfl rfl (pr_bin rfl rfl (by first | exact bin_eql_n (n := 1)  | exact bin_eql_i)) ?_
  try simp only [n0, n1, n2, n3, getD_cons_zero, getD_cons_succ, set_cons_zero, set_cons_succ, zero_add, add_zero, mul_one, zero_mul, m2, m3, m4]
  refine plan_p rfl rfl pr_move ?_
  try simp only [n0, n1, n2, n3, getD_cons_zero, getD_cons_succ, set_cons_zero, set_cons_succ, zero_add, add_zero, mul_one, zero_mul, m2, m3, m4]
  refine plan_p rfl rfl (pr_len_Sl (ha.chg hH.chg) rfl Try.underlying27) ?_
  try simp only [n0, n1, n2, n3, getD_cons_zero, getD_cons_succ, set_cons_zero, set_cons_succ, zero_add, add_zero, mul_one, zero_mul, m2, m3, m4]
  refine plan_p rfl rfl (pr_bin rfl rfl (by first | exact bin_neq_n (n := 12)  | exact bin_neq_i)) ?_
  try simp only [n0, n1, n2, n3, getD_cons_zero, getD_cons_succ, set_cons_zero, set_cons_succ, zero_add, add_zero, mul_one, zero_mul, m2, m3, m4]
  refine plan_p rfl rfl (pr_bin rfl rfl (bin_eql_b Try.underlying4)) ?_
  try simp only [n0, n1, n2, n3, getD_cons_zero, getD_cons_succ, set_cons_zero, set_cons_succ, zero_add, add_zero, mul_one, zero_mul, m2, m3, m4]
  refine plan_p rfl rfl (pr_pick_t rfl) ?_
  try simp only [n0, n1, n2, n3, getD_cons_zero, getD_cons_succ, set_cons_zero, set_cons_succ, zero_add, add_zero, mul_one, zero_mul, m2, m3, m4]
  refine plan_p (v := BV true) rfl rfl (pr_move_v (by show BV (_ == (al.length != 12)) = _; rw [bne_iff_ne.2 h12]; rfl)) ?_
  try simp only [n0, n1, n2, n3, getD_cons_zero, getD_cons_succ, set_cons_zero, set_cons_succ, zero_add, add_zero, mul_one, zero_mul, m2, m3, m4]
  refine plan_p rfl rfl pr_move ?_
  try simp only [n0, n1, n2, n3, getD_cons_zero, getD_cons_succ, set_cons_zero, set_cons_succ, zero_add, add_zero, mul_one, zero_mul, m2, m3, m4]
  refine plan_p rfl rfl (pr_bin rfl rfl (by first | exact bin_eql_n (n := 3)  | exact bin_eql_i)) ?_
  try simp only [n0, n1, n2, n3, getD_cons_zero, getD_cons_succ, set_cons_zero, set_cons_succ, zero_add, add_zero, mul_one, zero_mul, m2, m3, m4]
  refine plan_p rfl rfl (pr_pick_t rfl) ?_
  try simp only [n0, n1, n2, n3, getD_cons_zero, getD_cons_succ, set_cons_zero, set_cons_succ, zero_add, add_zero, mul_one, zero_mul, m2, m3, m4]
  refine plan_p rfl rfl pr_assign ?_
  try simp only [n0, n1, n2, n3, getD_cons_zero, getD_cons_succ, set_cons_zero, set_cons_succ, zero_add, add_zero, mul_one, zero_mul, m2, m3, m4]
  refine plan_nil hH ?_
  clear hH
  intro w38 hH
  refine hK37 _ _ ?_
  try clear hK37 K37
  refine wp_ret ?_
  try simp only [Exit.then, Exit.inBlock, ↓reduceIte, Nat.reduceEqDiff]
  refine BP.ret1 rfl rfl ?_
  exact ⟨rfl, hH.chg⟩

theorem gcmsame_other (a b : Value) (al bl : List UInt8) (w : World) (ha : Sl w a al) (hb : Sl w b bl) (hal : al.length < 9223372036854775808) (hbl : bl.length < 9223372036854775808) (h16 : al.length ≠ 16) (h12 : al.length ≠ 12) : Ret Try.prog 14 #[a, b] w fun v w' => v = BV true ∧ Chg [] w w' := by
  refine Ret.enter Try.func14 rfl ?_
  simp only [Try.ntmps14, List.size_toArray, List.length_cons, List.length_nil, Nat.reduceAdd, Nat.reduceSub, frame_enter, List.replicate_succ, List.replicate_zero, List.nil_append, List.cons_append]
  have hH := Hp.start [] w
  refine wp_seq_k ?_
  intro K1 hK1
  refine wp_region_text [.p 0] rfl ?_
  refine plan_p rfl rfl pr_assign ?_
  try simp only [n0, n1, n2, n3, getD_cons_zero, getD_cons_succ, set_cons_zero, set_cons_succ, zero_add, add_zero, mul_one, zero_mul, m2, m3, m4]
  refine plan_nil hH ?_
  clear hH
  intro w2 hH
  refine hK1 _ _ ?_
  try clear hK1 K1
  refine wp_seq_k ?_
  intro K3 hK3
  refine wp_region_text [.p 0, .q 1, .p 2, .p 3, .p 4, .p 5, .p 6] rfl ?_
  refine plan_p rfl rfl pr_move ?_
  try simp only [n0, n1, n2, n3, getD_cons_zero, getD_cons_succ, set_cons_zero, set_cons_succ, zero_add, add_zero, mul_one, zero_mul, m2, m3, m4]
  refine plan_q rfl rfl (qr_call cf23 (fun w' hw => gnew_fails _ _ w' ((ha.chg hH.chg).chg hw) h16) rfl) ?_
  try simp only [n0, n1, n2, n3, getD_cons_zero, getD_cons_succ, set_cons_zero, set_cons_succ, zero_add, add_zero, mul_one, zero_mul, m2, m3, m4]
  refine plan_p rfl rfl pr_move ?_
  try simp only [n0, n1, n2, n3, getD_cons_zero, getD_cons_succ, set_cons_zero, set_cons_succ, zero_add, add_zero, mul_one, zero_mul, m2, m3, m4]
  refine plan_p rfl rfl (pr_extract rfl rfl) ?_
  try simp only [n0, n1, n2, n3, getD_cons_zero, getD_cons_succ, set_cons_zero, set_cons_succ, zero_add, add_zero, mul_one, zero_mul, m2, m3, m4]
  refine plan_p rfl rfl (pr_extract rfl rfl) ?_
  try simp only [n0, n1, n2, n3, getD_cons_zero, getD_cons_succ, set_cons_zero, set_cons_succ, zero_add, add_zero, mul_one, zero_mul, m2, m3, m4]
  refine plan_p rfl rfl pr_assign ?_
  try simp only [n0, n1, n2, n3, getD_cons_zero, getD_cons_succ, set_cons_zero, set_cons_succ, zero_add, add_zero, mul_one, zero_mul, m2, m3, m4]
  refine plan_p rfl rfl pr_assign ?_
  try simp only [n0, n1, n2, n3, getD_cons_zero, getD_cons_succ, set_cons_zero, set_cons_succ, zero_add, add_zero, mul_one, zero_mul, m2, m3, m4]
  refine plan_nil hH ?_
  clear hH
  intro w4 hH
  refine hK3 _ _ ?_
  try clear hK3 K3
  refine wp_seq_k ?_
  intro K5 hK5
  refine wp_seq_k ?_
  intro K6 hK6
  refine wp_region_plan [.q 0, .p 1, .p 2, .p 3, .p 4, .p 6, .p 8, .q 5, .q 7, .q 9, .p 10, .p 11, .p 12, .p 13, .p 14, .p 15, .q 16, .p 17, .p 18, .p 19, .p 20, .p 21, .p 22, .p 23, .p 24, .p 25, .p 26, .p 27, .p 28, .p 29, .p 30, .p 31, .p 32, .p 33] (by kernel_rfl) (by kernel_rfl) (by kernel_rfl) (by kernel_rfl) (fun _ _ _ _ _ h => by first | exact h | exact BP.panic _ _ _ _ _ h) ?_
  refine plan_q rfl rfl (qr_call cf24 (fun w' hw => sealed_calls w') rfl) ?_
  try simp only [n0, n1, n2, n3, getD_cons_zero, getD_cons_succ, set_cons_zero, set_cons_succ, zero_add, add_zero, mul_one, zero_mul, m2, m3, m4]
  refine plan_p rfl rfl (pr_not rfl) ?_
  try simp only [n0, n1, n2, n3, getD_cons_zero, getD_cons_succ, set_cons_zero, set_cons_succ, zero_add, add_zero, mul_one, zero_mul, m2, m3, m4]
  refine plan_p (v := BV false) rfl rfl (pr_move_v rfl) ?_
  try simp only [n0, n1, n2, n3, getD_cons_zero, getD_cons_succ, set_cons_zero, set_cons_succ, zero_add, add_zero, mul_one, zero_mul, m2, m3, m4]
  refine plan_p rfl rfl pr_move ?_
  try simp only [n0, n1, n2, n3, getD_cons_zero, getD_cons_succ, set_cons_zero, set_cons_succ, zero_add, add_zero, mul_one, zero_mul, m2, m3, m4]
  refine plan_p rfl rfl pr_move ?_
  try simp only [n0, n1, n2, n3, getD_cons_zero, getD_cons_succ, set_cons_zero, set_cons_succ, zero_add, add_zero, mul_one, zero_mul, m2, m3, m4]
  refine plan_p rfl rfl pr_move ?_
  try simp only [n0, n1, n2, n3, getD_cons_zero, getD_cons_succ, set_cons_zero, set_cons_succ, zero_add, add_zero, mul_one, zero_mul, m2, m3, m4]
  refine plan_p rfl rfl pr_move ?_
  try simp only [n0, n1, n2, n3, getD_cons_zero, getD_cons_succ, set_cons_zero, set_cons_succ, zero_add, add_zero, mul_one, zero_mul, m2, m3, m4]
  refine plan_q rfl rfl (qr_call cf34 (fun w' hw => same_calls _ _ _ _ w' hal ((ha.chg hH.chg).chg hw) ((hb.chg hH.chg).chg hw)) rfl) ?_
  try simp only [n0, n1, n2, n3, getD_cons_zero, getD_cons_succ, set_cons_zero, set_cons_succ, zero_add, add_zero, mul_one, zero_mul, m2, m3, m4]
  refine plan_q rfl rfl (qr_b2s (ha.chg hH.chg) rfl Try.underlying27 Try.underlying5 Try.underlying9) ?_
  try simp only [n0, n1, n2, n3, getD_cons_zero, getD_cons_succ, set_cons_zero, set_cons_succ, zero_add, add_zero, mul_one, zero_mul, m2, m3, m4]
  refine plan_q rfl rfl (qr_b2s (hb.chg hH.chg) rfl Try.underlying27 Try.underlying5 Try.underlying9) ?_
  try simp only [n0, n1, n2, n3, getD_cons_zero, getD_cons_succ, set_cons_zero, set_cons_succ, zero_add, add_zero, mul_one, zero_mul, m2, m3, m4]
  refine plan_p rfl rfl (pr_bin rfl rfl bin_eql_s) ?_
  try simp only [n0, n1, n2, n3, getD_cons_zero, getD_cons_succ, set_cons_zero, set_cons_succ, zero_add, add_zero, mul_one, zero_mul, m2, m3, m4]
  refine plan_p rfl rfl (pr_bin rfl rfl (bin_neq_b Try.underlying4)) ?_
  try simp only [n0, n1, n2, n3, getD_cons_zero, getD_cons_succ, set_cons_zero, set_cons_succ, zero_add, add_zero, mul_one, zero_mul, m2, m3, m4]
  refine plan_p rfl rfl (pr_pick_f rfl) ?_
  try simp only [n0, n1, n2, n3, getD_cons_zero, getD_cons_succ, set_cons_zero, set_cons_succ, zero_add, add_zero, mul_one, zero_mul, m2, m3, m4]
  refine plan_p (v := BV false) rfl rfl (pr_move_v (by show BV (!((al == bl) == (al == bl))) = _; rw [beq_self_eq_true]; rfl)) ?_
  try simp only [n0, n1, n2, n3, getD_cons_zero, getD_cons_succ, set_cons_zero, set_cons_succ, zero_add, add_zero, mul_one, zero_mul, m2, m3, m4]
  refine plan_p rfl rfl pr_move ?_
  try simp only [n0, n1, n2, n3, getD_cons_zero, getD_cons_succ, set_cons_zero, set_cons_succ, zero_add, add_zero, mul_one, zero_mul, m2, m3, m4]
  refine plan_p rfl rfl pr_move ?_
  try simp only [n0, n1, n2, n3, getD_cons_zero, getD_cons_succ, set_cons_zero, set_cons_succ, zero_add, add_zero, mul_one, zero_mul, m2, m3, m4]
  refine plan_q rfl rfl (qr_call cf34 (fun w' hw => same_calls _ _ _ _ w' hal ((ha.chg hH.chg).chg hw) ((ha.chg hH.chg).chg hw)) rfl) ?_
  try simp only [n0, n1, n2, n3, getD_cons_zero, getD_cons_succ, set_cons_zero, set_cons_succ, zero_add, add_zero, mul_one, zero_mul, m2, m3, m4]
  refine plan_p rfl rfl (pr_not rfl) ?_
  try simp only [n0, n1, n2, n3, getD_cons_zero, getD_cons_succ, set_cons_zero, set_cons_succ, zero_add, add_zero, mul_one, zero_mul, m2, m3, m4]
  refine plan_p rfl rfl (pr_pick_f rfl) ?_
  try simp only [n0, n1, n2, n3, getD_cons_zero, getD_cons_succ, set_cons_zero, set_cons_succ, zero_add, add_zero, mul_one, zero_mul, m2, m3, m4]
  refine plan_p (v := BV false) rfl rfl (pr_move_v (by show BV (!(al == al)) = _; rw [beq_self_eq_true]; rfl)) ?_
  try simp only [n0, n1, n2, n3, getD_cons_zero, getD_cons_succ, set_cons_zero, set_cons_succ, zero_add, add_zero, mul_one, zero_mul, m2, m3, m4]
  refine plan_p rfl rfl pr_move ?_
  try simp only [n0, n1, n2, n3, getD_cons_zero, getD_cons_succ, set_cons_zero, set_cons_succ, zero_add, add_zero, mul_one, zero_mul, m2, m3, m4]
  refine plan_p rfl rfl (pr_bin rfl rfl (by first | exact bin_eql_n (n := 0)  | exact bin_eql_i)) ?_
  try simp only [n0, n1, n2, n3, getD_cons_zero, getD_cons_succ, set_cons_zero, set_cons_succ, zero_add, add_zero, mul_one, zero_mul, m2, m3, m4]
  refine plan_p rfl rfl pr_move ?_
  try simp only [n0, n1, n2, n3, getD_cons_zero, getD_cons_succ, set_cons_zero, set_cons_succ, zero_add, add_zero, mul_one, zero_mul, m2, m3, m4]
  refine plan_p rfl rfl (pr_len_Sl (ha.chg hH.chg) rfl Try.underlying27) ?_
  try simp only [n0, n1, n2, n3, getD_cons_zero, getD_cons_succ, set_cons_zero, set_cons_succ, zero_add, add_zero, mul_one, zero_mul, m2, m3, m4]
  refine plan_p rfl rfl (pr_bin rfl rfl (by first | exact bin_eql_n (n := 16)  | exact bin_eql_i)) ?_
  try simp only [n0, n1, n2, n3, getD_cons_zero, getD_cons_succ, set_cons_zero, set_cons_succ, zero_add, add_zero, mul_one, zero_mul, m2, m3, m4]
  refine plan_p rfl rfl (pr_bin rfl rfl (bin_neq_b Try.underlying4)) ?_
  try simp only [n0, n1, n2, n3, getD_cons_zero, getD_cons_succ, set_cons_zero, set_cons_succ, zero_add, add_zero, mul_one, zero_mul, m2, m3, m4]
  refine plan_p rfl rfl (pr_pick_f rfl) ?_
  try simp only [n0, n1, n2, n3, getD_cons_zero, getD_cons_succ, set_cons_zero, set_cons_succ, zero_add, add_zero, mul_one, zero_mul, m2, m3, m4]
  refine plan_p (v := BV false) rfl rfl (pr_move_v (by show BV (!(_ == (al.length == 16))) = _; rw [beq_eq_false_iff_ne.2 h16]; rfl)) ?_
  try simp only [n0, n1, n2, n3, getD_cons_zero, getD_cons_succ, set_cons_zero, set_cons_succ, zero_add, add_zero, mul_one, zero_mul, m2, m3, m4]
  refine plan_p rfl rfl pr_move ?_
  try simp only [n0, n1, n2, n3, getD_cons_zero, getD_cons_succ, set_cons_zero, set_cons_succ, zero_add, add_zero, mul_one, zero_mul, m2, m3, m4]
  refine plan_p rfl rfl (pr_bin rfl rfl (bin_neq_pn Try.underlying49)) ?_
  try simp only [n0, n1, n2, n3, getD_cons_zero, getD_cons_succ, set_cons_zero, set_cons_succ, zero_add, add_zero, mul_one, zero_mul, m2, m3, m4]
  refine plan_p rfl rfl pr_move ?_
  try simp only [n0, n1, n2, n3, getD_cons_zero, getD_cons_succ, set_cons_zero, set_cons_succ, zero_add, add_zero, mul_one, zero_mul, m2, m3, m4]
  refine plan_p rfl rfl (pr_bin rfl rfl (by first | exact bin_eql_n (n := 0)  | exact bin_eql_i)) ?_
  try simp only [n0, n1, n2, n3, getD_cons_zero, getD_cons_succ, set_cons_zero, set_cons_succ, zero_add, add_zero, mul_one, zero_mul, m2, m3, m4]
  refine plan_p rfl rfl (pr_bin rfl rfl (bin_neq_b Try.underlying4)) ?_
  try simp only [n0, n1, n2, n3, getD_cons_zero, getD_cons_succ, set_cons_zero, set_cons_succ, zero_add, add_zero, mul_one, zero_mul, m2, m3, m4]
  refine plan_p rfl rfl (pr_pick_f rfl) ?_
  try simp only [n0, n1, n2, n3, getD_cons_zero, getD_cons_succ, set_cons_zero, set_cons_succ, zero_add, add_zero, mul_one, zero_mul, m2, m3, m4]
  refine plan_nil hH ?_
  clear hH
  intro w7 hH
  refine hK6 _ _ ?_
  try clear hK6 K6
  refine wp_cond_false rfl ?_
  refine wp_skip ?_
  refine hK5 _ _ ?_
  try clear hK5 K5
  refine wp_seq_k ?_
  intro K8 hK8
  refine wp_region_text [.x 0, .x 1, .p 2, .p 3, .p 4, .p 5, .p 6] rfl ?_
  refine plan_make (n := 16) (c := 16) rfl rfl hH rfl rfl Try.underlying27 sz5 bz5 ze5 rfl (by omega) (by omega) (by omega) ?_
  clear hH
  intro b9 w10 hH
  try simp only [n0, n1, n2, n3, getD_cons_zero, getD_cons_succ, set_cons_zero, set_cons_succ, zero_add, add_zero, mul_one, zero_mul, m2, m3, m4] at hH ⊢
  rw [made_arr8] at hH
  try simp only [n0, n1, n2, n3, getD_cons_zero, getD_cons_succ, set_cons_zero, set_cons_succ, zero_add, add_zero, mul_one, zero_mul, m2, m3, m4, m5, m6, m7, Value.cells, arr8_set, arr32_set, arr64_set, arrB_set] at hH ⊢
  refine plan_callx rfl rfl hH cf23 (fun w' hH => gnew_calls _ _ w' (OwnC.sl hH 0 rfl OwnC.made) (by simp)) rfl (fun _ _ _ h => by obtain ⟨_, _, _, hg, _⟩ := h; exact hg) ?_
  clear hH
  intro w11 v12 w13 hH hp14
  obtain ⟨b15, b16, rfl, hg, hfc, hbc, hfx, hbx, hne⟩ := hp14
  replace hH := hH.callnew2 hg hbc hfc hbx hfx hne
  clear hg hfc hbc hfx hbx hne
  try simp only [n0, n1, n2, n3, getD_cons_zero, getD_cons_succ, set_cons_zero, set_cons_succ, zero_add, add_zero, mul_one, zero_mul, m2, m3, m4, m5, m6, m7, Value.cells, arr8_set, arr32_set, arr64_set, arrB_set] at hH ⊢
  try simp only [n0, n1, n2, n3, getD_cons_zero, getD_cons_succ, set_cons_zero, set_cons_succ, zero_add, add_zero, mul_one, zero_mul, m2, m3, m4]
  refine plan_p rfl rfl pr_move ?_
  try simp only [n0, n1, n2, n3, getD_cons_zero, getD_cons_succ, set_cons_zero, set_cons_succ, zero_add, add_zero, mul_one, zero_mul, m2, m3, m4]
  refine plan_p rfl rfl (pr_extract rfl rfl) ?_
  try simp only [n0, n1, n2, n3, getD_cons_zero, getD_cons_succ, set_cons_zero, set_cons_succ, zero_add, add_zero, mul_one, zero_mul, m2, m3, m4]
  refine plan_p rfl rfl (pr_extract rfl rfl) ?_
  try simp only [n0, n1, n2, n3, getD_cons_zero, getD_cons_succ, set_cons_zero, set_cons_succ, zero_add, add_zero, mul_one, zero_mul, m2, m3, m4]
  refine plan_p rfl rfl pr_assign ?_
  try simp only [n0, n1, n2, n3, getD_cons_zero, getD_cons_succ, set_cons_zero, set_cons_succ, zero_add, add_zero, mul_one, zero_mul, m2, m3, m4]
  refine plan_p rfl rfl pr_assign ?_
  try simp only [n0, n1, n2, n3, getD_cons_zero, getD_cons_succ, set_cons_zero, set_cons_succ, zero_add, add_zero, mul_one, zero_mul, m2, m3, m4]
  refine plan_nil hH ?_
  clear hH
  intro w17 hH
  refine hK8 _ _ ?_
  try clear hK8 K8
  refine wp_seq_k ?_
  intro K18 hK18
  refine wp_seq_k ?_
  intro K19 hK19
  refine wp_region_text [.p 0, .p 1] rfl ?_
  refine plan_p rfl rfl pr_move ?_
  try simp only [n0, n1, n2, n3, getD_cons_zero, getD_cons_succ, set_cons_zero, set_cons_succ, zero_add, add_zero, mul_one, zero_mul, m2, m3, m4]
  refine plan_p rfl rfl (pr_bin rfl rfl (by first | exact bin_neq_n (n := 0)  | exact bin_neq_i)) ?_
  try simp only [n0, n1, n2, n3, getD_cons_zero, getD_cons_succ, set_cons_zero, set_cons_succ, zero_add, add_zero, mul_one, zero_mul, m2, m3, m4]
  refine plan_nil hH ?_
  clear hH
  intro w20 hH
  refine hK19 _ _ ?_
  try clear hK19 K19
  refine wp_cond_false rfl ?_
  refine wp_skip ?_
  refine hK18 _ _ ?_
  try clear hK18 K18
  refine wp_seq_k ?_
  intro K21 hK21
  refine wp_region_text [.p 0, .p 1, .q 2, .p 3, .p 4, .p 5, .p 6, .p 7] rfl ?_
  refine plan_p rfl rfl pr_move ?_
  try simp only [n0, n1, n2, n3, getD_cons_zero, getD_cons_succ, set_cons_zero, set_cons_succ, zero_add, add_zero, mul_one, zero_mul, m2, m3, m4]
  refine plan_p rfl rfl pr_move ?_
  try simp only [n0, n1, n2, n3, getD_cons_zero, getD_cons_succ, set_cons_zero, set_cons_succ, zero_add, add_zero, mul_one, zero_mul, m2, m3, m4]
  refine plan_q rfl rfl (qr_call cf26 (fun w' hw => Seal_nonce _ _ _ _ _ _ w' ((ha.chg hH.chg).chg hw) h12 (Sl.nil.chg hw) (by simp)) rfl) ?_
  try simp only [n0, n1, n2, n3, getD_cons_zero, getD_cons_succ, set_cons_zero, set_cons_succ, zero_add, add_zero, mul_one, zero_mul, m2, m3, m4]
  refine plan_p rfl rfl pr_move ?_
  try simp only [n0, n1, n2, n3, getD_cons_zero, getD_cons_succ, set_cons_zero, set_cons_succ, zero_add, add_zero, mul_one, zero_mul, m2, m3, m4]
  refine plan_p rfl rfl (pr_extract rfl rfl) ?_
  try simp only [n0, n1, n2, n3, getD_cons_zero, getD_cons_succ, set_cons_zero, set_cons_succ, zero_add, add_zero, mul_one, zero_mul, m2, m3, m4]
  refine plan_p rfl rfl (pr_extract rfl rfl) ?_
  try simp only [n0, n1, n2, n3, getD_cons_zero, getD_cons_succ, set_cons_zero, set_cons_succ, zero_add, add_zero, mul_one, zero_mul, m2, m3, m4]
  refine plan_p rfl rfl pr_assign ?_
  try simp only [n0, n1, n2, n3, getD_cons_zero, getD_cons_succ, set_cons_zero, set_cons_succ, zero_add, add_zero, mul_one, zero_mul, m2, m3, m4]
  refine plan_p rfl rfl pr_assign ?_
  try simp only [n0, n1, n2, n3, getD_cons_zero, getD_cons_succ, set_cons_zero, set_cons_succ, zero_add, add_zero, mul_one, zero_mul, m2, m3, m4]
  refine plan_nil hH ?_
  clear hH
  intro w22 hH
  refine hK21 _ _ ?_
  try clear hK21 K21
  refine wp_seq_k ?_
  intro K23 hK23
  refine wp_region_text [.p 0, .p 1, .x 2, .q 3, .p 4, .p 5, .p 6, .p 7, .p 8] rfl ?_
  refine plan_p rfl rfl pr_move ?_
  try simp only [n0, n1, n2, n3, getD_cons_zero, getD_cons_succ, set_cons_zero, set_cons_succ, zero_add, add_zero, mul_one, zero_mul, m2, m3, m4]
  refine plan_p rfl rfl pr_move ?_
  try simp only [n0, n1, n2, n3, getD_cons_zero, getD_cons_succ, set_cons_zero, set_cons_succ, zero_add, add_zero, mul_one, zero_mul, m2, m3, m4]
  refine plan_make (n := 16) (c := 16) rfl rfl hH rfl rfl Try.underlying27 sz5 bz5 ze5 rfl (by omega) (by omega) (by omega) ?_
  clear hH
  intro b24 w25 hH
  try simp only [n0, n1, n2, n3, getD_cons_zero, getD_cons_succ, set_cons_zero, set_cons_succ, zero_add, add_zero, mul_one, zero_mul, m2, m3, m4] at hH ⊢
  rw [made_arr8] at hH
  try simp only [n0, n1, n2, n3, getD_cons_zero, getD_cons_succ, set_cons_zero, set_cons_succ, zero_add, add_zero, mul_one, zero_mul, m2, m3, m4, m5, m6, m7, Value.cells, arr8_set, arr32_set, arr64_set, arrB_set] at hH ⊢
  refine plan_q rfl rfl (qr_call cf32 (fun w' hw => Open_nonce _ _ _ _ _ _ w' ((ha.chg hH.chg).chg hw) h12 ((OwnC.sl hH 3 rfl OwnC.made).chg hw) (by simp)) rfl) ?_
  try simp only [n0, n1, n2, n3, getD_cons_zero, getD_cons_succ, set_cons_zero, set_cons_succ, zero_add, add_zero, mul_one, zero_mul, m2, m3, m4]
  refine plan_p rfl rfl pr_move ?_
  try simp only [n0, n1, n2, n3, getD_cons_zero, getD_cons_succ, set_cons_zero, set_cons_succ, zero_add, add_zero, mul_one, zero_mul, m2, m3, m4]
  refine plan_p rfl rfl (pr_extract rfl rfl) ?_
  try simp only [n0, n1, n2, n3, getD_cons_zero, getD_cons_succ, set_cons_zero, set_cons_succ, zero_add, add_zero, mul_one, zero_mul, m2, m3, m4]
  refine plan_p rfl rfl (pr_extract rfl rfl) ?_
  try simp only [n0, n1, n2, n3, getD_cons_zero, getD_cons_succ, set_cons_zero, set_cons_succ, zero_add, add_zero, mul_one, zero_mul, m2, m3, m4]
  refine plan_p rfl rfl pr_assign ?_
  try simp only [n0, n1, n2, n3, getD_cons_zero, getD_cons_succ, set_cons_zero, set_cons_succ, zero_add, add_zero, mul_one, zero_mul, m2, m3, m4]
  refine plan_p rfl rfl pr_assign ?_
  try simp only [n0, n1, n2, n3, getD_cons_zero, getD_cons_succ, set_cons_zero, set_cons_succ, zero_add, add_zero, mul_one, zero_mul, m2, m3, m4]
  refine plan_nil hH ?_
  clear hH
  intro w26 hH
  refine hK23 _ _ ?_
  try clear hK23 K23
  refine wp_seq_k ?_
  intro K27 hK27
  refine wp_region_plan [.p 0, .p 2, .p 3, .p 4, .p 5, .p 6, .x 1, .q 7, .p 8, .p 9, .p 10, .p 11, .p 12] (by kernel_rfl) (by kernel_rfl) (by kernel_rfl) (by kernel_rfl) (fun _ _ _ _ _ h => by first | exact h | exact BP.panic _ _ _ _ _ h) ?_
  refine plan_p rfl rfl pr_move ?_
  try simp only [n0, n1, n2, n3, getD_cons_zero, getD_cons_succ, set_cons_zero, set_cons_succ, zero_add, add_zero, mul_one, zero_mul, m2, m3, m4]
  refine plan_p rfl rfl pr_move ?_
  try simp only [n0, n1, n2, n3, getD_cons_zero, getD_cons_succ, set_cons_zero, set_cons_succ, zero_add, add_zero, mul_one, zero_mul, m2, m3, m4]
  refine plan_p rfl rfl pr_move ?_
  try simp only [n0, n1, n2, n3, getD_cons_zero, getD_cons_succ, set_cons_zero, set_cons_succ, zero_add, add_zero, mul_one, zero_mul, m2, m3, m4]
  refine plan_p rfl rfl (pr_len_Sl (hb.chg hH.chg) rfl Try.underlying27) ?_
  try simp only [n0, n1, n2, n3, getD_cons_zero, getD_cons_succ, set_cons_zero, set_cons_succ, zero_add, add_zero, mul_one, zero_mul, m2, m3, m4]
  refine plan_p rfl rfl (by first | exact pr_min_n (n := 15) rfl rfl | exact pr_min rfl rfl) ?_
  try simp only [n0, n1, n2, n3, getD_cons_zero, getD_cons_succ, set_cons_zero, set_cons_succ, zero_add, add_zero, mul_one, zero_mul, m2, m3, m4]
  refine plan_p rfl rfl (pr_slice_Sl_h (hb.chg hH.chg) rfl rfl Try.underlying27 sz5 (by omega)) ?_
  try simp only [n0, n1, n2, n3, getD_cons_zero, getD_cons_succ, set_cons_zero, set_cons_succ, zero_add, add_zero, mul_one, zero_mul, m2, m3, m4]
  refine plan_make (n := 12) (c := 12) rfl rfl hH rfl rfl Try.underlying27 sz5 bz5 ze5 rfl (by omega) (by omega) (by omega) ?_
  clear hH
  intro b28 w29 hH
  try simp only [n0, n1, n2, n3, getD_cons_zero, getD_cons_succ, set_cons_zero, set_cons_succ, zero_add, add_zero, mul_one, zero_mul, m2, m3, m4] at hH ⊢
  rw [made_arr8] at hH
  try simp only [n0, n1, n2, n3, getD_cons_zero, getD_cons_succ, set_cons_zero, set_cons_succ, zero_add, add_zero, mul_one, zero_mul, m2, m3, m4, m5, m6, m7, Value.cells, arr8_set, arr32_set, arr64_set, arrB_set] at hH ⊢
  refine plan_q rfl rfl (qr_call cf32 (fun w' hw => Open_short _ _ _ _ _ _ w' ((OwnC.sl hH 4 rfl OwnC.made).chg hw) (by simp) ((Sl.cuth (hb.chg hH.chg) (by omega)).chg hw) (by simp; omega)) rfl) ?_
  try simp only [n0, n1, n2, n3, getD_cons_zero, getD_cons_succ, set_cons_zero, set_cons_succ, zero_add, add_zero, mul_one, zero_mul, m2, m3, m4]
  refine plan_p rfl rfl pr_move ?_
  try simp only [n0, n1, n2, n3, getD_cons_zero, getD_cons_succ, set_cons_zero, set_cons_succ, zero_add, add_zero, mul_one, zero_mul, m2, m3, m4]
  refine plan_p rfl rfl (pr_extract rfl rfl) ?_
  try simp only [n0, n1, n2, n3, getD_cons_zero, getD_cons_succ, set_cons_zero, set_cons_succ, zero_add, add_zero, mul_one, zero_mul, m2, m3, m4]
  refine plan_p rfl rfl (pr_extract rfl rfl) ?_
  try simp only [n0, n1, n2, n3, getD_cons_zero, getD_cons_succ, set_cons_zero, set_cons_succ, zero_add, add_zero, mul_one, zero_mul, m2, m3, m4]
  refine plan_p rfl rfl pr_assign ?_
  try simp only [n0, n1, n2, n3, getD_cons_zero, getD_cons_succ, set_cons_zero, set_cons_succ, zero_add, add_zero, mul_one, zero_mul, m2, m3, m4]
  refine plan_p rfl rfl pr_assign ?_
  try simp only [n0, n1, n2, n3, getD_cons_zero, getD_cons_succ, set_cons_zero, set_cons_succ, zero_add, add_zero, mul_one, zero_mul, m2, m3, m4]
  refine plan_nil hH ?_
  clear hH
  intro w30 hH
  refine hK27 _ _ ?_
  try clear hK27 K27
  refine wp_seq_k ?_
  intro K31 hK31
  refine wp_region_text [.p 0, .p 1, .p 2, .p 3, .p 4, .p 5, .p 6, .p 7, .p 8, .p 9, .p 10, .p 11, .p 12, .p 13, .p 14, .p 15, .p 16, .p 17, .p 18] rfl ?_
  refine plan_p rfl rfl pr_move ?_
  try simp only [n0, n1, n2, n3, getD_cons_zero, getD_cons_succ, set_cons_zero, set_cons_succ, zero_add, add_zero, mul_one, zero_mul, m2, m3, m4]
  refine plan_p rfl rfl (pr_bin rfl rfl (by first | exact bin_eql_n (n := 1)  | exact bin_eql_i)) ?_
  try simp only [n0, n1, n2, n3, getD_cons_zero, getD_cons_succ, set_cons_zero, set_cons_succ, zero_add, add_zero, mul_one, zero_mul, m2, m3, m4]
  refine plan_p rfl rfl pr_move ?_
  try simp only [n0, n1, n2, n3, getD_cons_zero, getD_cons_succ, set_cons_zero, set_cons_succ, zero_add, add_zero, mul_one, zero_mul, m2, m3, m4]
  refine plan_p rfl rfl (pr_len_Sl (ha.chg hH.chg) rfl Try.underlying27) ?_
  try simp only [n0, n1, n2, n3, getD_cons_zero, getD_cons_succ, set_cons_zero, set_cons_succ, zero_add, add_zero, mul_one, zero_mul, m2, m3, m4]
  refine plan_p rfl rfl (pr_bin rfl rfl (by first | exact bin_neq_n (n := 12)  | exact bin_neq_i)) ?_
  try simp only [n0, n1, n2, n3, getD_cons_zero, getD_cons_succ, set_cons_zero, set_cons_succ, zero_add, add_zero, mul_one, zero_mul, m2, m3, m4]
  refine plan_p rfl rfl (pr_bin rfl rfl (bin_eql_b Try.underlying4)) ?_
  try simp only [n0, n1, n2, n3, getD_cons_zero, getD_cons_succ, set_cons_zero, set_cons_succ, zero_add, add_zero, mul_one, zero_mul, m2, m3, m4]
  refine plan_p (v := BV true) rfl rfl (pr_move_v (by show BV (_ == (al.length != 12)) = _; rw [bne_iff_ne.2 h12]; rfl)) ?_
  try simp only [n0, n1, n2, n3, getD_cons_zero, getD_cons_succ, set_cons_zero, set_cons_succ, zero_add, add_zero, mul_one, zero_mul, m2, m3, m4]
  refine plan_p rfl rfl pr_move ?_
  try simp only [n0, n1, n2, n3, getD_cons_zero, getD_cons_succ, set_cons_zero, set_cons_succ, zero_add, add_zero, mul_one, zero_mul, m2, m3, m4]
  refine plan_p rfl rfl (pr_bin rfl rfl (by first | exact bin_eql_n (n := 1)  | exact bin_eql_i)) ?_
  try simp only [n0, n1, n2, n3, getD_cons_zero, getD_cons_succ, set_cons_zero, set_cons_succ, zero_add, add_zero, mul_one, zero_mul, m2, m3, m4]
  refine plan_p rfl rfl pr_move ?_
  try simp only [n0, n1, n2, n3, getD_cons_zero, getD_cons_succ, set_cons_zero, set_cons_succ, zero_add, add_zero, mul_one, zero_mul, m2, m3, m4]
  refine plan_p rfl rfl (pr_len_Sl (ha.chg hH.chg) rfl Try.underlying27) ?_
  try simp only [n0, n1, n2, n3, getD_cons_zero, getD_cons_succ, set_cons_zero, set_cons_succ, zero_add, add_zero, mul_one, zero_mul, m2, m3, m4]
  refine plan_p rfl rfl (pr_bin rfl rfl (by first | exact bin_neq_n (n := 12)  | exact bin_neq_i)) ?_
  try simp only [n0, n1, n2, n3, getD_cons_zero, getD_cons_succ, set_cons_zero, set_cons_succ, zero_add, add_zero, mul_one, zero_mul, m2, m3, m4]
  refine plan_p rfl rfl (pr_bin rfl rfl (bin_eql_b Try.underlying4)) ?_
  try simp only [n0, n1, n2, n3, getD_cons_zero, getD_cons_succ, set_cons_zero, set_cons_succ, zero_add, add_zero, mul_one, zero_mul, m2, m3, m4]
  refine plan_p rfl rfl (pr_pick_t rfl) ?_
  try simp only [n0, n1, n2, n3, getD_cons_zero, getD_cons_succ, set_cons_zero, set_cons_succ, zero_add, add_zero, mul_one, zero_mul, m2, m3, m4]
  refine plan_p (v := BV true) rfl rfl (pr_move_v (by show BV (_ == (al.length != 12)) = _; rw [bne_iff_ne.2 h12]; rfl)) ?_
  try simp only [n0, n1, n2, n3, getD_cons_zero, getD_cons_succ, set_cons_zero, set_cons_succ, zero_add, add_zero, mul_one, zero_mul, m2, m3, m4]
  refine plan_p rfl rfl pr_move ?_
  try simp only [n0, n1, n2, n3, getD_cons_zero, getD_cons_succ, set_cons_zero, set_cons_succ, zero_add, add_zero, mul_one, zero_mul, m2, m3, m4]
  refine plan_p rfl rfl (pr_bin rfl rfl (by first | exact bin_eql_n (n := 3)  | exact bin_eql_i)) ?_
  try simp only [n0, n1, n2, n3, getD_cons_zero, getD_cons_succ, set_cons_zero, set_cons_succ, zero_add, add_zero, mul_one, zero_mul, m2, m3, m4]
  refine plan_p rfl rfl (pr_pick_t rfl) ?_
  try simp only [n0, n1, n2, n3, getD_cons_zero, getD_cons_succ, set_cons_zero, set_cons_succ, zero_add, add_zero, mul_one, zero_mul, m2, m3, m4]
  refine plan_p rfl rfl pr_assign ?_
  try simp only [n0, n1, n2, n3, getD_cons_zero, getD_cons_succ, set_cons_zero, set_cons_succ, zero_add, add_zero, mul_one, zero_mul, m2, m3, m4]
  refine plan_nil hH ?_
  clear hH
  intro w32 hH
  refine hK31 _ _ ?_
  try clear hK31 K31
  refine wp_ret ?_
  try simp only [Exit.then, Exit.inBlock, ↓reduceIte, Nat.reduceEqDiff]
  refine BP.ret1 rfl rfl ?_
  exact ⟨rfl, hH.chg⟩

theorem gcmsame_wrong (a b : Value) (al bl : List UInt8) (w : World) (ha : Sl w a al) (hb : Sl w b bl) (hal : al.length < 9223372036854775808) (hbl : bl.length < 9223372036854775808) (h16 : al.length ≠ 16) (h12 : al.length = 12) (he : sealL (kexp fun i => ((List.range 16).map fun _ => (0 : UInt8)).getD i 0) (hP (kexp fun i => ((List.range 16).map fun _ => (0 : UInt8)).getD i 0)) al [] (((List.range 16).map fun _ => (0 : UInt8)).take (((List.range 16).map fun _ => (0 : UInt8)).length - 16)) ≠ ((List.range 16).map fun _ => (0 : UInt8)).drop (((List.range 16).map fun _ => (0 : UInt8)).length - 16)) : Ret Try.prog 14 #[a, b] w fun v w' => v = BV true ∧ Chg [] w w' := by
  refine Ret.enter Try.func14 rfl ?_
  simp only [Try.ntmps14, List.size_toArray, List.length_cons, List.length_nil, Nat.reduceAdd, Nat.reduceSub, frame_enter, List.replicate_succ, List.replicate_zero, List.nil_append, List.cons_append]
  have hH := Hp.start [] w
  refine wp_seq_k ?_
  intro K1 hK1
  refine wp_region_text [.p 0] rfl ?_
  refine plan_p rfl rfl pr_assign ?_
  try simp only [n0, n1, n2, n3, getD_cons_zero, getD_cons_succ, set_cons_zero, set_cons_succ, zero_add, add_zero, mul_one, zero_mul, m2, m3, m4]
  refine plan_nil hH ?_
  clear hH
  intro w2 hH
  refine hK1 _ _ ?_
  try clear hK1 K1
  refine wp_seq_k ?_
  intro K3 hK3
  refine wp_region_text [.p 0, .q 1, .p 2, .p 3, .p 4, .p 5, .p 6] rfl ?_
  refine plan_p rfl rfl pr_move ?_
  try simp only [n0, n1, n2, n3, getD_cons_zero, getD_cons_succ, set_cons_zero, set_cons_succ, zero_add, add_zero, mul_one, zero_mul, m2, m3, m4]
  refine plan_q rfl rfl (qr_call cf23 (fun w' hw => gnew_fails _ _ w' ((ha.chg hH.chg).chg hw) h16) rfl) ?_
  try simp only [n0, n1, n2, n3, getD_cons_zero, getD_cons_succ, set_cons_zero, set_cons_succ, zero_add, add_zero, mul_one, zero_mul, m2, m3, m4]
  refine plan_p rfl rfl pr_move ?_
  try simp only [n0, n1, n2, n3, getD_cons_zero, getD_cons_succ, set_cons_zero, set_cons_succ, zero_add, add_zero, mul_one, zero_mul, m2, m3, m4]
  refine plan_p rfl rfl (pr_extract rfl rfl) ?_
  try simp only [n0, n1, n2, n3, getD_cons_zero, getD_cons_succ, set_cons_zero, set_cons_succ, zero_add, add_zero, mul_one, zero_mul, m2, m3, m4]
  refine plan_p rfl rfl (pr_extract rfl rfl) ?_
  try simp only [n0, n1, n2, n3, getD_cons_zero, getD_cons_succ, set_cons_zero, set_cons_succ, zero_add, add_zero, mul_one, zero_mul, m2, m3, m4]
  refine plan_p rfl rfl pr_assign ?_
  try simp only [n0, n1, n2, n3, getD_cons_zero, getD_cons_succ, set_cons_zero, set_cons_succ, zero_add, add_zero, mul_one, zero_mul, m2, m3, m4]
  refine plan_p rfl rfl pr_assign ?_
  try simp only [n0, n1, n2, n3, getD_cons_zero, getD_cons_succ, set_cons_zero, set_cons_succ, zero_add, add_zero, mul_one, zero_mul, m2, m3, m4]
  refine plan_nil hH ?_
  clear hH
  intro w4 hH
  refine hK3 _ _ ?_
  try clear hK3 K3
  refine wp_seq_k ?_
  intro K5 hK5
  refine wp_seq_k ?_
  intro K6 hK6
  refine wp_region_plan [.q 0, .p 1, .p 2, .p 3, .p 4, .p 6, .p 8, .q 5, .q 7, .q 9, .p 10, .p 11, .p 12, .p 13, .p 14, .p 15, .q 16, .p 17, .p 18, .p 19, .p 20, .p 21, .p 22, .p 23, .p 24, .p 25, .p 26, .p 27, .p 28, .p 29, .p 30, .p 31, .p 32, .p 33] (by kernel_rfl) (by kernel_rfl) (by kernel_rfl) (by kernel_rfl) (fun _ _ _ _ _ h => by first | exact h | exact BP.panic _ _ _ _ _ h) ?_
  refine plan_q rfl rfl (qr_call cf24 (fun w' hw => sealed_calls w') rfl) ?_
  try simp only [n0, n1, n2, n3, getD_cons_zero, getD_cons_succ, set_cons_zero, set_cons_succ, zero_add, add_zero, mul_one, zero_mul, m2, m3, m4]
  refine plan_p rfl rfl (pr_not rfl) ?_
  try simp only [n0, n1, n2, n3, getD_cons_zero, getD_cons_succ, set_cons_zero, set_cons_succ, zero_add, add_zero, mul_one, zero_mul, m2, m3, m4]
  refine plan_p (v := BV false) rfl rfl (pr_move_v rfl) ?_
  try simp only [n0, n1, n2, n3, getD_cons_zero, getD_cons_succ, set_cons_zero, set_cons_succ, zero_add, add_zero, mul_one, zero_mul, m2, m3, m4]
  refine plan_p rfl rfl pr_move ?_
  try simp only [n0, n1, n2, n3, getD_cons_zero, getD_cons_succ, set_cons_zero, set_cons_succ, zero_add, add_zero, mul_one, zero_mul, m2, m3, m4]
  refine plan_p rfl rfl pr_move ?_
  try simp only [n0, n1, n2, n3, getD_cons_zero, getD_cons_succ, set_cons_zero, set_cons_succ, zero_add, add_zero, mul_one, zero_mul, m2, m3, m4]
  refine plan_p rfl rfl pr_move ?_
  try simp only [n0, n1, n2, n3, getD_cons_zero, getD_cons_succ, set_cons_zero, set_cons_succ, zero_add, add_zero, mul_one, zero_mul, m2, m3, m4]
  refine plan_p rfl rfl pr_move ?_
  try simp only [n0, n1, n2, n3, getD_cons_zero, getD_cons_succ, set_cons_zero, set_cons_succ, zero_add, add_zero, mul_one, zero_mul, m2, m3, m4]
  refine plan_q rfl rfl (qr_call cf34 (fun w' hw => same_calls _ _ _ _ w' hal ((ha.chg hH.chg).chg hw) ((hb.chg hH.chg).chg hw)) rfl) ?_
  try simp only [n0, n1, n2, n3, getD_cons_zero, getD_cons_succ, set_cons_zero, set_cons_succ, zero_add, add_zero, mul_one, zero_mul, m2, m3, m4]
  refine plan_q rfl rfl (qr_b2s (ha.chg hH.chg) rfl Try.underlying27 Try.underlying5 Try.underlying9) ?_
  try simp only [n0, n1, n2, n3, getD_cons_zero, getD_cons_succ, set_cons_zero, set_cons_succ, zero_add, add_zero, mul_one, zero_mul, m2, m3, m4]
  refine plan_q rfl rfl (qr_b2s (hb.chg hH.chg) rfl Try.underlying27 Try.underlying5 Try.underlying9) ?_
  try simp only [n0, n1, n2, n3, getD_cons_zero, getD_cons_succ, set_cons_zero, set_cons_succ, zero_add, add_zero, mul_one, zero_mul, m2, m3, m4]
  refine plan_p rfl rfl (pr_bin rfl rfl bin_eql_s) ?_
  try simp only [n0, n1, n2, n3, getD_cons_zero, getD_cons_succ, set_cons_zero, set_cons_succ, zero_add, add_zero, mul_one, zero_mul, m2, m3, m4]
  refine plan_p rfl rfl (pr_bin rfl rfl (bin_neq_b Try.underlying4)) ?_
  try simp only [n0, n1, n2, n3, getD_cons_zero, getD_cons_succ, set_cons_zero, set_cons_succ, zero_add, add_zero, mul_one, zero_mul, m2, m3, m4]
  refine plan_p rfl rfl (pr_pick_f rfl) ?_
  try simp only [n0, n1, n2, n3, getD_cons_zero, getD_cons_succ, set_cons_zero, set_cons_succ, zero_add, add_zero, mul_one, zero_mul, m2, m3, m4]
  refine plan_p (v := BV false) rfl rfl (pr_move_v (by show BV (!((al == bl) == (al == bl))) = _; rw [beq_self_eq_true]; rfl)) ?_
  try simp only [n0, n1, n2, n3, getD_cons_zero, getD_cons_succ, set_cons_zero, set_cons_succ, zero_add, add_zero, mul_one, zero_mul, m2, m3, m4]
  refine plan_p rfl rfl pr_move ?_
  try simp only [n0, n1, n2, n3, getD_cons_zero, getD_cons_succ, set_cons_zero, set_cons_succ, zero_add, add_zero, mul_one, zero_mul, m2, m3, m4]
  refine plan_p rfl rfl pr_move ?_
  try simp only [n0, n1, n2, n3, getD_cons_zero, getD_cons_succ, set_cons_zero, set_cons_succ, zero_add, add_zero, mul_one, zero_mul, m2, m3, m4]
  refine plan_q rfl rfl (qr_call cf34 (fun w' hw => same_calls _ _ _ _ w' hal ((ha.chg hH.chg).chg hw) ((ha.chg hH.chg).chg hw)) rfl) ?_
  try simp only [n0, n1, n2, n3, getD_cons_zero, getD_cons_succ, set_cons_zero, set_cons_succ, zero_add, add_zero, mul_one, zero_mul, m2, m3, m4]
  refine plan_p rfl rfl (pr_not rfl) ?_
  try simp only [n0, n1, n2, n3, getD_cons_zero, getD_cons_succ, set_cons_zero, set_cons_succ, zero_add, add_zero, mul_one, zero_mul, m2, m3, m4]
  refine plan_p rfl rfl (pr_pick_f rfl) ?_
  try simp only [n0, n1, n2, n3, getD_cons_zero, getD_cons_succ, set_cons_zero, set_cons_succ, zero_add, add_zero, mul_one, zero_mul, m2, m3, m4]
  refine plan_p (v := BV false) rfl rfl (pr_move_v (by show BV (!(al == al)) = _; rw [beq_self_eq_true]; rfl)) ?_
  try simp only [n0, n1, n2, n3, getD_cons_zero, getD_cons_succ, set_cons_zero, set_cons_succ, zero_add, add_zero, mul_one, zero_mul, m2, m3, m4]
  refine plan_p rfl rfl pr_move ?_
  try simp only [n0, n1, n2, n3, getD_cons_zero, getD_cons_succ, set_cons_zero, set_cons_succ, zero_add, add_zero, mul_one, zero_mul, m2, m3, m4]
  refine plan_p rfl rfl (pr_bin rfl rfl (by first | exact bin_eql_n (n := 0)  | exact bin_eql_i)) ?_
  try simp only [n0, n1, n2, n3, getD_cons_zero, getD_cons_succ, set_cons_zero, set_cons_succ, zero_add, add_zero, mul_one, zero_mul, m2, m3, m4]
  refine plan_p rfl rfl pr_move ?_
  try simp only [n0, n1, n2, n3, getD_cons_zero, getD_cons_succ, set_cons_zero, set_cons_succ, zero_add, add_zero, mul_one, zero_mul, m2, m3, m4]
  refine plan_p rfl rfl (pr_len_Sl (ha.chg hH.chg) rfl Try.underlying27) ?_
  try simp only [n0, n1, n2, n3, getD_cons_zero, getD_cons_succ, set_cons_zero, set_cons_succ, zero_add, add_zero, mul_one, zero_mul, m2, m3, m4]
  refine plan_p rfl rfl (pr_bin rfl rfl (by first | exact bin_eql_n (n := 16)  | exact bin_eql_i)) ?_
  try simp only [n0, n1, n2, n3, getD_cons_zero, getD_cons_succ, set_cons_zero, set_cons_succ, zero_add, add_zero, mul_one, zero_mul, m2, m3, m4]
  refine plan_p rfl rfl (pr_bin rfl rfl (bin_neq_b Try.underlying4)) ?_
  try simp only [n0, n1, n2, n3, getD_cons_zero, getD_cons_succ, set_cons_zero, set_cons_succ, zero_add, add_zero, mul_one, zero_mul, m2, m3, m4]
  refine plan_p rfl rfl (pr_pick_f rfl) ?_
  try simp only [n0, n1, n2, n3, getD_cons_zero, getD_cons_succ, set_cons_zero, set_cons_succ, zero_add, add_zero, mul_one, zero_mul, m2, m3, m4]
  refine plan_p (v := BV false) rfl rfl (pr_move_v (by show BV (!(_ == (al.length == 16))) = _; rw [beq_eq_false_iff_ne.2 h16]; rfl)) ?_
  try simp only [n0, n1, n2, n3, getD_cons_zero, getD_cons_succ, set_cons_zero, set_cons_succ, zero_add, add_zero, mul_one, zero_mul, m2, m3, m4]
  refine plan_p rfl rfl pr_move ?_
  try simp only [n0, n1, n2, n3, getD_cons_zero, getD_cons_succ, set_cons_zero, set_cons_succ, zero_add, add_zero, mul_one, zero_mul, m2, m3, m4]
  refine plan_p rfl rfl (pr_bin rfl rfl (bin_neq_pn Try.underlying49)) ?_
  try simp only [n0, n1, n2, n3, getD_cons_zero, getD_cons_succ, set_cons_zero, set_cons_succ, zero_add, add_zero, mul_one, zero_mul, m2, m3, m4]
  refine plan_p rfl rfl pr_move ?_
  try simp only [n0, n1, n2, n3, getD_cons_zero, getD_cons_succ, set_cons_zero, set_cons_succ, zero_add, add_zero, mul_one, zero_mul, m2, m3, m4]
  refine plan_p rfl rfl (pr_bin rfl rfl (by first | exact bin_eql_n (n := 0)  | exact bin_eql_i)) ?_
  try simp only [n0, n1, n2, n3, getD_cons_zero, getD_cons_succ, set_cons_zero, set_cons_succ, zero_add, add_zero, mul_one, zero_mul, m2, m3, m4]
  refine plan_p rfl rfl (pr_bin rfl rfl (bin_neq_b Try.underlying4)) ?_
  try simp only [n0, n1, n2, n3, getD_cons_zero, getD_cons_succ, set_cons_zero, set_cons_succ, zero_add, add_zero, mul_one, zero_mul, m2, m3, m4]
  refine plan_p rfl rfl (pr_pick_f rfl) ?_
  try simp only [n0, n1, n2, n3, getD_cons_zero, getD_cons_succ, set_cons_zero, set_cons_succ, zero_add, add_zero, mul_one, zero_mul, m2, m3, m4]
  refine plan_nil hH ?_
  clear hH
  intro w7 hH
  refine hK6 _ _ ?_
  try clear hK6 K6
  refine wp_cond_false rfl ?_
  refine wp_skip ?_
  refine hK5 _ _ ?_
  try clear hK5 K5
  refine wp_seq_k ?_
  intro K8 hK8
  refine wp_region_text [.x 0, .x 1, .p 2, .p 3, .p 4, .p 5, .p 6] rfl ?_
  refine plan_make (n := 16) (c := 16) rfl rfl hH rfl rfl Try.underlying27 sz5 bz5 ze5 rfl (by omega) (by omega) (by omega) ?_
  clear hH
  intro b9 w10 hH
  try simp only [n0, n1, n2, n3, getD_cons_zero, getD_cons_succ, set_cons_zero, set_cons_succ, zero_add, add_zero, mul_one, zero_mul, m2, m3, m4] at hH ⊢
  rw [made_arr8] at hH
  try simp only [n0, n1, n2, n3, getD_cons_zero, getD_cons_succ, set_cons_zero, set_cons_succ, zero_add, add_zero, mul_one, zero_mul, m2, m3, m4, m5, m6, m7, Value.cells, arr8_set, arr32_set, arr64_set, arrB_set] at hH ⊢
  refine plan_callx rfl rfl hH cf23 (fun w' hH => gnew_calls _ _ w' (OwnC.sl hH 0 rfl OwnC.made) (by simp)) rfl (fun _ _ _ h => by obtain ⟨_, _, _, hg, _⟩ := h; exact hg) ?_
  clear hH
  intro w11 v12 w13 hH hp14
  obtain ⟨b15, b16, rfl, hg, hfc, hbc, hfx, hbx, hne⟩ := hp14
  replace hH := hH.callnew2 hg hbc hfc hbx hfx hne
  clear hg hfc hbc hfx hbx hne
  try simp only [n0, n1, n2, n3, getD_cons_zero, getD_cons_succ, set_cons_zero, set_cons_succ, zero_add, add_zero, mul_one, zero_mul, m2, m3, m4, m5, m6, m7, Value.cells, arr8_set, arr32_set, arr64_set, arrB_set] at hH ⊢
  try simp only [n0, n1, n2, n3, getD_cons_zero, getD_cons_succ, set_cons_zero, set_cons_succ, zero_add, add_zero, mul_one, zero_mul, m2, m3, m4]
  refine plan_p rfl rfl pr_move ?_
  try simp only [n0, n1, n2, n3, getD_cons_zero, getD_cons_succ, set_cons_zero, set_cons_succ, zero_add, add_zero, mul_one, zero_mul, m2, m3, m4]
  refine plan_p rfl rfl (pr_extract rfl rfl) ?_
  try simp only [n0, n1, n2, n3, getD_cons_zero, getD_cons_succ, set_cons_zero, set_cons_succ, zero_add, add_zero, mul_one, zero_mul, m2, m3, m4]
  refine plan_p rfl rfl (pr_extract rfl rfl) ?_
  try simp only [n0, n1, n2, n3, getD_cons_zero, getD_cons_succ, set_cons_zero, set_cons_succ, zero_add, add_zero, mul_one, zero_mul, m2, m3, m4]
  refine plan_p rfl rfl pr_assign ?_
  try simp only [n0, n1, n2, n3, getD_cons_zero, getD_cons_succ, set_cons_zero, set_cons_succ, zero_add, add_zero, mul_one, zero_mul, m2, m3, m4]
  refine plan_p rfl rfl pr_assign ?_
  try simp only [n0, n1, n2, n3, getD_cons_zero, getD_cons_succ, set_cons_zero, set_cons_succ, zero_add, add_zero, mul_one, zero_mul, m2, m3, m4]
  refine plan_nil hH ?_
  clear hH
  intro w17 hH
  refine hK8 _ _ ?_
  try clear hK8 K8
  refine wp_seq_k ?_
  intro K18 hK18
  refine wp_seq_k ?_
  intro K19 hK19
  refine wp_region_text [.p 0, .p 1] rfl ?_
  refine plan_p rfl rfl pr_move ?_
  try simp only [n0, n1, n2, n3, getD_cons_zero, getD_cons_succ, set_cons_zero, set_cons_succ, zero_add, add_zero, mul_one, zero_mul, m2, m3, m4]
  refine plan_p rfl rfl (pr_bin rfl rfl (by first | exact bin_neq_n (n := 0)  | exact bin_neq_i)) ?_
  try simp only [n0, n1, n2, n3, getD_cons_zero, getD_cons_succ, set_cons_zero, set_cons_succ, zero_add, add_zero, mul_one, zero_mul, m2, m3, m4]
  refine plan_nil hH ?_
  clear hH
  intro w20 hH
  refine hK19 _ _ ?_
  try clear hK19 K19
  refine wp_cond_false rfl ?_
  refine wp_skip ?_
  refine hK18 _ _ ?_
  try clear hK18 K18
  refine wp_seq_k ?_
  intro K21 hK21
  refine wp_region_text [.p 0, .p 1, .x 2, .p 3, .p 4, .p 5, .p 6, .p 7] rfl ?_
  refine plan_p rfl rfl pr_move ?_
  try simp only [n0, n1, n2, n3, getD_cons_zero, getD_cons_succ, set_cons_zero, set_cons_succ, zero_add, add_zero, mul_one, zero_mul, m2, m3, m4]
  refine plan_p rfl rfl pr_move ?_
  try simp only [n0, n1, n2, n3, getD_cons_zero, getD_cons_succ, set_cons_zero, set_cons_succ, zero_add, add_zero, mul_one, zero_mul, m2, m3, m4]
  refine plan_callx rfl rfl hH cf26 (fun w' hH => Seal_calls _ _ _ (hP _) _ _ _ _ _ _ w' (hH.blk 2 rfl) (hH.blk 1 rfl) (ha.chg hH.chg) h12 Sl.nil Sl.nil (by simp)) rfl (fun _ _ _ h => by obtain ⟨_, _, _, _, hg, _⟩ := h; exact hg) ?_
  clear hH
  intro w22 v23 w24 hH hp25
  obtain ⟨o26, cap27, cs28, rfl, hg, hO29, hfr⟩ := hp25
  replace hH := hH.callown hg hfr
  clear hg hfr
  try simp only [n0, n1, n2, n3, getD_cons_zero, getD_cons_succ, set_cons_zero, set_cons_succ, zero_add, add_zero, mul_one, zero_mul, m2, m3, m4, m5, m6, m7, Value.cells, arr8_set, arr32_set, arr64_set, arrB_set] at hH ⊢
  try simp only [n0, n1, n2, n3, getD_cons_zero, getD_cons_succ, set_cons_zero, set_cons_succ, zero_add, add_zero, mul_one, zero_mul, m2, m3, m4]
  refine plan_p rfl rfl pr_move ?_
  try simp only [n0, n1, n2, n3, getD_cons_zero, getD_cons_succ, set_cons_zero, set_cons_succ, zero_add, add_zero, mul_one, zero_mul, m2, m3, m4]
  refine plan_p rfl rfl (pr_extract rfl rfl) ?_
  try simp only [n0, n1, n2, n3, getD_cons_zero, getD_cons_succ, set_cons_zero, set_cons_succ, zero_add, add_zero, mul_one, zero_mul, m2, m3, m4]
  refine plan_p rfl rfl (pr_extract rfl rfl) ?_
  try simp only [n0, n1, n2, n3, getD_cons_zero, getD_cons_succ, set_cons_zero, set_cons_succ, zero_add, add_zero, mul_one, zero_mul, m2, m3, m4]
  refine plan_p rfl rfl pr_assign ?_
  try simp only [n0, n1, n2, n3, getD_cons_zero, getD_cons_succ, set_cons_zero, set_cons_succ, zero_add, add_zero, mul_one, zero_mul, m2, m3, m4]
  refine plan_p rfl rfl pr_assign ?_
  try simp only [n0, n1, n2, n3, getD_cons_zero, getD_cons_succ, set_cons_zero, set_cons_succ, zero_add, add_zero, mul_one, zero_mul, m2, m3, m4]
  refine plan_nil hH ?_
  clear hH
  intro w30 hH
  refine hK21 _ _ ?_
  try clear hK21 K21
  refine wp_seq_k ?_
  intro K31 hK31
  refine wp_region_text [.p 0, .p 1, .x 2, .q 3, .p 4, .p 5, .p 6, .p 7, .p 8] rfl ?_
  refine plan_p rfl rfl pr_move ?_
  try simp only [n0, n1, n2, n3, getD_cons_zero, getD_cons_succ, set_cons_zero, set_cons_succ, zero_add, add_zero, mul_one, zero_mul, m2, m3, m4]
  refine plan_p rfl rfl pr_move ?_
  try simp only [n0, n1, n2, n3, getD_cons_zero, getD_cons_succ, set_cons_zero, set_cons_succ, zero_add, add_zero, mul_one, zero_mul, m2, m3, m4]
  refine plan_make (n := 16) (c := 16) rfl rfl hH rfl rfl Try.underlying27 sz5 bz5 ze5 rfl (by omega) (by omega) (by omega) ?_
  clear hH
  intro b32 w33 hH
  try simp only [n0, n1, n2, n3, getD_cons_zero, getD_cons_succ, set_cons_zero, set_cons_succ, zero_add, add_zero, mul_one, zero_mul, m2, m3, m4] at hH ⊢
  rw [made_arr8] at hH
  try simp only [n0, n1, n2, n3, getD_cons_zero, getD_cons_succ, set_cons_zero, set_cons_succ, zero_add, add_zero, mul_one, zero_mul, m2, m3, m4, m5, m6, m7, Value.cells, arr8_set, arr32_set, arr64_set, arrB_set] at hH ⊢
  refine plan_q rfl rfl (qr_call cf32 (fun w' hw => Open_wrong _ _ _ (hP _) _ _ _ _ _ _ w' (hw.nil_blk (hH.blk 2 rfl)) (hw.nil_blk (hH.blk 1 rfl)) ((ha.chg hH.chg).chg hw) h12 (Sl.nil.chg hw) ((OwnC.sl hH 4 rfl OwnC.made).chg hw) (by simp) (by simp) he) rfl) ?_
  try simp only [n0, n1, n2, n3, getD_cons_zero, getD_cons_succ, set_cons_zero, set_cons_succ, zero_add, add_zero, mul_one, zero_mul, m2, m3, m4]
  refine plan_p rfl rfl pr_move ?_
  try simp only [n0, n1, n2, n3, getD_cons_zero, getD_cons_succ, set_cons_zero, set_cons_succ, zero_add, add_zero, mul_one, zero_mul, m2, m3, m4]
  refine plan_p rfl rfl (pr_extract rfl rfl) ?_
  try simp only [n0, n1, n2, n3, getD_cons_zero, getD_cons_succ, set_cons_zero, set_cons_succ, zero_add, add_zero, mul_one, zero_mul, m2, m3, m4]
  refine plan_p rfl rfl (pr_extract rfl rfl) ?_
  try simp only [n0, n1, n2, n3, getD_cons_zero, getD_cons_succ, set_cons_zero, set_cons_succ, zero_add, add_zero, mul_one, zero_mul, m2, m3, m4]
  refine plan_p rfl rfl pr_assign ?_
  try simp only [n0, n1, n2, n3, getD_cons_zero, getD_cons_succ, set_cons_zero, set_cons_succ, zero_add, add_zero, mul_one, zero_mul, m2, m3, m4]
  refine plan_p rfl rfl pr_assign ?_
  try simp only [n0, n1, n2, n3, getD_cons_zero, getD_cons_succ, set_cons_zero, set_cons_succ, zero_add, add_zero, mul_one, zero_mul, m2, m3, m4]
  refine plan_nil hH ?_
  clear hH
  intro w34 hH
  refine hK31 _ _ ?_
  try clear hK31 K31
  refine wp_seq_k ?_
  intro K35 hK35
  refine wp_region_plan [.p 0, .p 2, .p 3, .p 4, .p 5, .p 6, .x 1, .q 7, .p 8, .p 9, .p 10, .p 11, .p 12] (by kernel_rfl) (by kernel_rfl) (by kernel_rfl) (by kernel_rfl) (fun _ _ _ _ _ h => by first | exact h | exact BP.panic _ _ _ _ _ h) ?_
  refine plan_p rfl rfl pr_move ?_
  try simp only [n0, n1, n2, n3, getD_cons_zero, getD_cons_succ, set_cons_zero, set_cons_succ, zero_add, add_zero, mul_one, zero_mul, m2, m3, m4]
  refine plan_p rfl rfl pr_move ?_
  try simp only [n0, n1, n2, n3, getD_cons_zero, getD_cons_succ, set_cons_zero, set_cons_succ, zero_add, add_zero, mul_one, zero_mul, m2, m3, m4]
  refine plan_p rfl rfl pr_move ?_
  try simp only [n0, n1, n2, n3, getD_cons_zero, getD_cons_succ, set_cons_zero, set_cons_succ, zero_add, add_zero, mul_one, zero_mul, m2, m3, m4]
  refine plan_p rfl rfl (pr_len_Sl (hb.chg hH.chg) rfl Try.underlying27) ?_
  try simp only [n0, n1, n2, n3, getD_cons_zero, getD_cons_succ, set_cons_zero, set_cons_succ, zero_add, add_zero, mul_one, zero_mul, m2, m3, m4]
  refine plan_p rfl rfl (by first | exact pr_min_n (n := 15) rfl rfl | exact pr_min rfl rfl) ?_
  try simp only [n0, n1, n2, n3, getD_cons_zero, getD_cons_succ, set_cons_zero, set_cons_succ, zero_add, add_zero, mul_one, zero_mul, m2, m3, m4]
  refine plan_p rfl rfl (pr_slice_Sl_h (hb.chg hH.chg) rfl rfl Try.underlying27 sz5 (by omega)) ?_
  try simp only [n0, n1, n2, n3, getD_cons_zero, getD_cons_succ, set_cons_zero, set_cons_succ, zero_add, add_zero, mul_one, zero_mul, m2, m3, m4]
  refine plan_make (n := 12) (c := 12) rfl rfl hH rfl rfl Try.underlying27 sz5 bz5 ze5 rfl (by omega) (by omega) (by omega) ?_
  clear hH
  intro b36 w37 hH
  try simp only [n0, n1, n2, n3, getD_cons_zero, getD_cons_succ, set_cons_zero, set_cons_succ, zero_add, add_zero, mul_one, zero_mul, m2, m3, m4] at hH ⊢
  rw [made_arr8] at hH
  try simp only [n0, n1, n2, n3, getD_cons_zero, getD_cons_succ, set_cons_zero, set_cons_succ, zero_add, add_zero, mul_one, zero_mul, m2, m3, m4, m5, m6, m7, Value.cells, arr8_set, arr32_set, arr64_set, arrB_set] at hH ⊢
  refine plan_q rfl rfl (qr_call cf32 (fun w' hw => Open_short _ _ _ _ _ _ w' ((OwnC.sl hH 5 rfl OwnC.made).chg hw) (by simp) ((Sl.cuth (hb.chg hH.chg) (by omega)).chg hw) (by simp; omega)) rfl) ?_
  try simp only [n0, n1, n2, n3, getD_cons_zero, getD_cons_succ, set_cons_zero, set_cons_succ, zero_add, add_zero, mul_one, zero_mul, m2, m3, m4]
  refine plan_p rfl rfl pr_move ?_
  try simp only [n0, n1, n2, n3, getD_cons_zero, getD_cons_succ, set_cons_zero, set_cons_succ, zero_add, add_zero, mul_one, zero_mul, m2, m3, m4]
  refine plan_p rfl rfl (pr_extract rfl rfl) ?_
  try simp only [n0, n1, n2, n3, getD_cons_zero, getD_cons_succ, set_cons_zero, set_cons_succ, zero_add, add_zero, mul_one, zero_mul, m2, m3, m4]
  refine plan_p rfl rfl (pr_extract rfl rfl) ?_
  try simp only [n0, n1, n2, n3, getD_cons_zero, getD_cons_succ, set_cons_zero, set_cons_succ, zero_add, add_zero, mul_one, zero_mul, m2, m3, m4]
  refine plan_p rfl rfl pr_assign ?_
  try simp only [n0, n1, n2, n3, getD_cons_zero, getD_cons_succ, set_cons_zero, set_cons_succ, zero_add, add_zero, mul_one, zero_mul, m2, m3, m4]
  refine plan_p rfl rfl pr_assign ?_
  try simp only [n0, n1, n2, n3, getD_cons_zero, getD_cons_succ, set_cons_zero, set_cons_succ, zero_add, add_zero, mul_one, zero_mul, m2, m3, m4]
  refine plan_nil hH ?_
  clear hH
  intro w38 hH
  refine hK35 _ _ ?_
  try clear hK35 K35
  refine wp_seq_k ?_
  intro K39 hK39
  refine wp_region_text [.p 0, .p 1, .p 2, .p 3, .p 4, .p 5, .p 6, .p 7, .p 8, .p 9, .p 10, .p 11, .p 12, .p 13, .p 14, .p 15, .p 16, .p 17, .p 18] rfl ?_
  refine plan_p rfl rfl pr_move ?_
  try simp only [n0, n1, n2, n3, getD_cons_zero, getD_cons_succ, set_cons_zero, set_cons_succ, zero_add, add_zero, mul_one, zero_mul, m2, m3, m4]
  refine plan_p rfl rfl (pr_bin rfl rfl (by first | exact bin_eql_n (n := 1)  | exact bin_eql_i)) ?_
  try simp only [n0, n1, n2, n3, getD_cons_zero, getD_cons_succ, set_cons_zero, set_cons_succ, zero_add, add_zero, mul_one, zero_mul, m2, m3, m4]
  refine plan_p rfl rfl pr_move ?_
  try simp only [n0, n1, n2, n3, getD_cons_zero, getD_cons_succ, set_cons_zero, set_cons_succ, zero_add, add_zero, mul_one, zero_mul, m2, m3, m4]
  refine plan_p rfl rfl (pr_len_Sl (ha.chg hH.chg) rfl Try.underlying27) ?_
  try simp only [n0, n1, n2, n3, getD_cons_zero, getD_cons_succ, set_cons_zero, set_cons_succ, zero_add, add_zero, mul_one, zero_mul, m2, m3, m4]
  refine plan_p rfl rfl (pr_bin rfl rfl (by first | exact bin_neq_n (n := 12)  | exact bin_neq_i)) ?_
  try simp only [n0, n1, n2, n3, getD_cons_zero, getD_cons_succ, set_cons_zero, set_cons_succ, zero_add, add_zero, mul_one, zero_mul, m2, m3, m4]
  refine plan_p rfl rfl (pr_bin rfl rfl (bin_eql_b Try.underlying4)) ?_
  try simp only [n0, n1, n2, n3, getD_cons_zero, getD_cons_succ, set_cons_zero, set_cons_succ, zero_add, add_zero, mul_one, zero_mul, m2, m3, m4]
  refine plan_p (v := BV true) rfl rfl (pr_move_v (by show BV (_ == (al.length != 12)) = _; rw [h12]; rfl)) ?_
  try simp only [n0, n1, n2, n3, getD_cons_zero, getD_cons_succ, set_cons_zero, set_cons_succ, zero_add, add_zero, mul_one, zero_mul, m2, m3, m4]
  refine plan_p rfl rfl pr_move ?_
  try simp only [n0, n1, n2, n3, getD_cons_zero, getD_cons_succ, set_cons_zero, set_cons_succ, zero_add, add_zero, mul_one, zero_mul, m2, m3, m4]
  refine plan_p rfl rfl (pr_bin rfl rfl (by first | exact bin_eql_n (n := 1)  | exact bin_eql_i)) ?_
  try simp only [n0, n1, n2, n3, getD_cons_zero, getD_cons_succ, set_cons_zero, set_cons_succ, zero_add, add_zero, mul_one, zero_mul, m2, m3, m4]
  refine plan_p rfl rfl pr_move ?_
  try simp only [n0, n1, n2, n3, getD_cons_zero, getD_cons_succ, set_cons_zero, set_cons_succ, zero_add, add_zero, mul_one, zero_mul, m2, m3, m4]
  refine plan_p rfl rfl (pr_len_Sl (ha.chg hH.chg) rfl Try.underlying27) ?_
  try simp only [n0, n1, n2, n3, getD_cons_zero, getD_cons_succ, set_cons_zero, set_cons_succ, zero_add, add_zero, mul_one, zero_mul, m2, m3, m4]
  refine plan_p rfl rfl (pr_bin rfl rfl (by first | exact bin_neq_n (n := 12)  | exact bin_neq_i)) ?_
  try simp only [n0, n1, n2, n3, getD_cons_zero, getD_cons_succ, set_cons_zero, set_cons_succ, zero_add, add_zero, mul_one, zero_mul, m2, m3, m4]
  refine plan_p rfl rfl (pr_bin rfl rfl (bin_eql_b Try.underlying4)) ?_
  try simp only [n0, n1, n2, n3, getD_cons_zero, getD_cons_succ, set_cons_zero, set_cons_succ, zero_add, add_zero, mul_one, zero_mul, m2, m3, m4]
  refine plan_p rfl rfl (pr_pick_t rfl) ?_
  try simp only [n0, n1, n2, n3, getD_cons_zero, getD_cons_succ, set_cons_zero, set_cons_succ, zero_add, add_zero, mul_one, zero_mul, m2, m3, m4]
  refine plan_p (v := BV true) rfl rfl (pr_move_v (by show BV (_ == (al.length != 12)) = _; rw [h12]; rfl)) ?_
  try simp only [n0, n1, n2, n3, getD_cons_zero, getD_cons_succ, set_cons_zero, set_cons_succ, zero_add, add_zero, mul_one, zero_mul, m2, m3, m4]
  refine plan_p rfl rfl pr_move ?_
  try simp only [n0, n1, n2, n3, getD_cons_zero, getD_cons_succ, set_cons_zero, set_cons_succ, zero_add, add_zero, mul_one, zero_mul, m2, m3, m4]
  refine plan_p rfl rfl (pr_bin rfl rfl (by first | exact bin_eql_n (n := 3)  | exact bin_eql_i)) ?_
  try simp only [n0, n1, n2, n3, getD_cons_zero, getD_cons_succ, set_cons_zero, set_cons_succ, zero_add, add_zero, mul_one, zero_mul, m2, m3, m4]
  refine plan_p rfl rfl (pr_pick_t rfl) ?_
  try simp only [n0, n1, n2, n3, getD_cons_zero, getD_cons_succ, set_cons_zero, set_cons_succ, zero_add, add_zero, mul_one, zero_mul, m2, m3, m4]
  refine plan_p rfl rfl pr_assign ?_
  try simp only [n0, n1, n2, n3, getD_cons_zero, getD_cons_succ, set_cons_zero, set_cons_succ, zero_add, add_zero, mul_one, zero_mul, m2, m3, m4]
  refine plan_nil hH ?_
  clear hH
  intro w40 hH
  refine hK39 _ _ ?_
  try clear hK39 K39
  refine wp_ret ?_
  try simp only [Exit.then, Exit.inBlock, ↓reduceIte, Nat.reduceEqDiff]
  refine BP.ret1 rfl rfl ?_
  exact ⟨rfl, hH.chg⟩

theorem gcmsame_right (a b : Value) (al bl : List UInt8) (w : World) (ha : Sl w a al) (hb : Sl w b bl) (hal : al.length < 9223372036854775808) (hbl : bl.length < 9223372036854775808) (h16 : al.length ≠ 16) (h12 : al.length = 12) (he : sealL (kexp fun i => ((List.range 16).map fun _ => (0 : UInt8)).getD i 0) (hP (kexp fun i => ((List.range 16).map fun _ => (0 : UInt8)).getD i 0)) al [] (((List.range 16).map fun _ => (0 : UInt8)).take (((List.range 16).map fun _ => (0 : UInt8)).length - 16)) = ((List.range 16).map fun _ => (0 : UInt8)).drop (((List.range 16).map fun _ => (0 : UInt8)).length - 16)) : Ret Try.prog 14 #[a, b] w fun v w' => v = BV true ∧ Chg [] w w' := by
  refine Ret.enter Try.func14 rfl ?_
  simp only [Try.ntmps14, List.size_toArray, List.length_cons, List.length_nil, Nat.reduceAdd, Nat.reduceSub, frame_enter, List.replicate_succ, List.replicate_zero, List.nil_append, List.cons_append]
  have hH := Hp.start [] w
  refine wp_seq_k ?_
  intro K1 hK1
  refine wp_region_text [.p 0] rfl ?_
  refine plan_p rfl rfl pr_assign ?_
  try simp only [n0, n1, n2, n3, getD_cons_zero, getD_cons_succ, set_cons_zero, set_cons_succ, zero_add, add_zero, mul_one, zero_mul, m2, m3, m4]
  refine plan_nil hH ?_
  clear hH
  intro w2 hH
  refine hK1 _ _ ?_
  try clear hK1 K1
  refine wp_seq_k ?_
  intro K3 hK3
  refine wp_region_text [.p 0, .q 1, .p 2, .p 3, .p 4, .p 5, .p 6] rfl ?_
  refine plan_p rfl rfl pr_move ?_
  try simp only [n0, n1, n2, n3, getD_cons_zero, getD_cons_succ, set_cons_zero, set_cons_succ, zero_add, add_zero, mul_one, zero_mul, m2, m3, m4]
  refine plan_q rfl rfl (qr_call cf23 (fun w' hw => gnew_fails _ _ w' ((ha.chg hH.chg).chg hw) h16) rfl) ?_
  try simp only [n0, n1, n2, n3, getD_cons_zero, getD_cons_succ, set_cons_zero, set_cons_succ, zero_add, add_zero, mul_one, zero_mul, m2, m3, m4]
  refine plan_p rfl rfl pr_move ?_
  try simp only [n0, n1, n2, n3, getD_cons_zero, getD_cons_succ, set_cons_zero, set_cons_succ, zero_add, add_zero, mul_one, zero_mul, m2, m3, m4]
  refine plan_p rfl rfl (pr_extract rfl rfl) ?_
  try simp only [n0, n1, n2, n3, getD_cons_zero, getD_cons_succ, set_cons_zero, set_cons_succ, zero_add, add_zero, mul_one, zero_mul, m2, m3, m4]
  refine plan_p rfl rfl (pr_extract rfl rfl) ?_
  try simp only [n0, n1, n2, n3, getD_cons_zero, getD_cons_succ, set_cons_zero, set_cons_succ, zero_add, add_zero, mul_one, zero_mul, m2, m3, m4]
  refine plan_p rfl rfl pr_assign ?_
  try simp only [n0, n1, n2, n3, getD_cons_zero, getD_cons_succ, set_cons_zero, set_cons_succ, zero_add, add_zero, mul_one, zero_mul, m2, m3, m4]
  refine plan_p rfl rfl pr_assign ?_
  try simp only [n0, n1, n2, n3, getD_cons_zero, getD_cons_succ, set_cons_zero, set_cons_succ, zero_add, add_zero, mul_one, zero_mul, m2, m3, m4]
  refine plan_nil hH ?_
  clear hH
  intro w4 hH
  refine hK3 _ _ ?_
  try clear hK3 K3
  refine wp_seq_k ?_
  intro K5 hK5
  refine wp_seq_k ?_
  intro K6 hK6
  refine wp_region_plan [.q 0, .p 1, .p 2, .p 3, .p 4, .p 6, .p 8, .q 5, .q 7, .q 9, .p 10, .p 11, .p 12, .p 13, .p 14, .p 15, .q 16, .p 17, .p 18, .p 19, .p 20, .p 21, .p 22, .p 23, .p 24, .p 25, .p 26, .p 27, .p 28, .p 29, .p 30, .p 31, .p 32, .p 33] (by kernel_rfl) (by kernel_rfl) (by kernel_rfl) (by kernel_rfl) (fun _ _ _ _ _ h => by first | exact h | exact BP.panic _ _ _ _ _ h) ?_
  refine plan_q rfl rfl (qr_call cf24 (fun w' hw => sealed_calls w') rfl) ?_
  try simp only [n0, n1, n2, n3, getD_cons_zero, getD_cons_succ, set_cons_zero, set_cons_succ, zero_add, add_zero, mul_one, zero_mul, m2, m3, m4]
  refine plan_p rfl rfl (pr_not rfl) ?_
  try simp only [n0, n1, n2, n3, getD_cons_zero, getD_cons_succ, set_cons_zero, set_cons_succ, zero_add, add_zero, mul_one, zero_mul, m2, m3, m4]
  refine plan_p (v := BV false) rfl rfl (pr_move_v rfl) ?_
  try simp only [n0, n1, n2, n3, getD_cons_zero, getD_cons_succ, set_cons_zero, set_cons_succ, zero_add, add_zero, mul_one, zero_mul, m2, m3, m4]
  refine plan_p rfl rfl pr_move ?_
  try simp only [n0, n1, n2, n3, getD_cons_zero, getD_cons_succ, set_cons_zero, set_cons_succ, zero_add, add_zero, mul_one, zero_mul, m2, m3, m4]
  refine plan_p rfl rfl pr_move ?_
  try simp only [n0, n1, n2, n3, getD_cons_zero, getD_cons_succ, set_cons_zero, set_cons_succ, zero_add, add_zero, mul_one, zero_mul, m2, m3, m4]
  refine plan_p rfl rfl pr_move ?_
  try simp only [n0, n1, n2, n3, getD_cons_zero, getD_cons_succ, set_cons_zero, set_cons_succ, zero_add, add_zero, mul_one, zero_mul, m2, m3, m4]
  refine plan_p rfl rfl pr_move ?_
  try simp only [n0, n1, n2, n3, getD_cons_zero, getD_cons_succ, set_cons_zero, set_cons_succ, zero_add, add_zero, mul_one, zero_mul, m2, m3, m4]
  refine plan_q rfl rfl (qr_call cf34 (fun w' hw => same_calls _ _ _ _ w' hal ((ha.chg hH.chg).chg hw) ((hb.chg hH.chg).chg hw)) rfl) ?_
  try simp only [n0, n1, n2, n3, getD_cons_zero, getD_cons_succ, set_cons_zero, set_cons_succ, zero_add, add_zero, mul_one, zero_mul, m2, m3, m4]
  refine plan_q rfl rfl (qr_b2s (ha.chg hH.chg) rfl Try.underlying27 Try.underlying5 Try.underlying9) ?_
  try simp only [n0, n1, n2, n3, getD_cons_zero, getD_cons_succ, set_cons_zero, set_cons_succ, zero_add, add_zero, mul_one, zero_mul, m2, m3, m4]
  refine plan_q rfl rfl (qr_b2s (hb.chg hH.chg) rfl Try.underlying27 Try.underlying5 Try.underlying9) ?_
  try simp only [n0, n1, n2, n3, getD_cons_zero, getD_cons_succ, set_cons_zero, set_cons_succ, zero_add, add_zero, mul_one, zero_mul, m2, m3, m4]
  refine plan_p rfl rfl (pr_bin rfl rfl bin_eql_s) ?_
  try simp only [n0, n1, n2, n3, getD_cons_zero, getD_cons_succ, set_cons_zero, set_cons_succ, zero_add, add_zero, mul_one, zero_mul, m2, m3, m4]
  refine plan_p rfl rfl (pr_bin rfl rfl (bin_neq_b Try.underlying4)) ?_
  try simp only [n0, n1, n2, n3, getD_cons_zero, getD_cons_succ, set_cons_zero, set_cons_succ, zero_add, add_zero, mul_one, zero_mul, m2, m3, m4]
  refine plan_p rfl rfl (pr_pick_f rfl) ?_
  try simp only [n0, n1, n2, n3, getD_cons_zero, getD_cons_succ, set_cons_zero, set_cons_succ, zero_add, add_zero, mul_one, zero_mul, m2, m3, m4]
  refine plan_p (v := BV false) rfl rfl (pr_move_v (by show BV (!((al == bl) == (al == bl))) = _; rw [beq_self_eq_true]; rfl)) ?_
  try simp only [n0, n1, n2, n3, getD_cons_zero, getD_cons_succ, set_cons_zero, set_cons_succ, zero_add, add_zero, mul_one, zero_mul, m2, m3, m4]
  refine plan_p rfl rfl pr_move ?_
  try simp only [n0, n1, n2, n3, getD_cons_zero, getD_cons_succ, set_cons_zero, set_cons_succ, zero_add, add_zero, mul_one, zero_mul, m2, m3, m4]
  refine plan_p rfl rfl pr_move ?_
  try simp only [n0, n1, n2, n3, getD_cons_zero, getD_cons_succ, set_cons_zero, set_cons_succ, zero_add, add_zero, mul_one, zero_mul, m2, m3, m4]
  refine plan_q rfl rfl (qr_call cf34 (fun w' hw => same_calls _ _ _ _ w' hal ((ha.chg hH.chg).chg hw) ((ha.chg hH.chg).chg hw)) rfl) ?_
  try simp only [n0, n1, n2, n3, getD_cons_zero, getD_cons_succ, set_cons_zero, set_cons_succ, zero_add, add_zero, mul_one, zero_mul, m2, m3, m4]
  refine plan_p rfl rfl (pr_not rfl) ?_
  try simp only [n0, n1, n2, n3, getD_cons_zero, getD_cons_succ, set_cons_zero, set_cons_succ, zero_add, add_zero, mul_one, zero_mul, m2, m3, m4]
  refine plan_p rfl rfl (pr_pick_f rfl) ?_
  try simp only [n0, n1, n2, n3, getD_cons_zero, getD_cons_succ, set_cons_zero, set_cons_succ, zero_add, add_zero, mul_one, zero_mul, m2, m3, m4]
  refine plan_p (v := BV false) rfl rfl (pr_move_v (by show BV (!(al == al)) = _; rw [beq_self_eq_true]; rfl)) ?_
  try simp only [n0, n1, n2, n3, getD_cons_zero, getD_cons_succ, set_cons_zero, set_cons_succ, zero_add, add_zero, mul_one, zero_mul, m2, m3, m4]
  refine plan_p rfl rfl pr_move ?_
  try simp only [n0, n1, n2, n3, getD_cons_zero, getD_cons_succ, set_cons_zero, set_cons_succ, zero_add, add_zero, mul_one, zero_mul, m2, m3, m4]
  refine plan_p rfl rfl (pr_bin rfl rfl (by first | exact bin_eql_n (n := 0)  | exact bin_eql_i)) ?_
  try simp only [n0, n1, n2, n3, getD_cons_zero, getD_cons_succ, set_cons_zero, set_cons_succ, zero_add, add_zero, mul_one, zero_mul, m2, m3, m4]
  refine plan_p rfl rfl pr_move ?_
  try simp only [n0, n1, n2, n3, getD_cons_zero, getD_cons_succ, set_cons_zero, set_cons_succ, zero_add, add_zero, mul_one, zero_mul, m2, m3, m4]
  refine plan_p rfl rfl (pr_len_Sl (ha.chg hH.chg) rfl Try.underlying27) ?_
  try simp only [n0, n1, n2, n3, getD_cons_zero, getD_cons_succ, set_cons_zero, set_cons_succ, zero_add, add_zero, mul_one, zero_mul, m2, m3, m4]
  refine plan_p rfl rfl (pr_bin rfl rfl (by first | exact bin_eql_n (n := 16)  | exact bin_eql_i)) ?_
  try simp only [n0, n1, n2, n3, getD_cons_zero, getD_cons_succ, set_cons_zero, set_cons_succ, zero_add, add_zero, mul_one, zero_mul, m2, m3, m4]
  refine plan_p rfl rfl (pr_bin rfl rfl (bin_neq_b Try.underlying4)) ?_
  try simp only [n0, n1, n2, n3, getD_cons_zero, getD_cons_succ, set_cons_zero, set_cons_succ, zero_add, add_zero, mul_one, zero_mul, m2, m3, m4]
  refine plan_p rfl rfl (pr_pick_f rfl) ?_
  try simp only [n0, n1, n2, n3, getD_cons_zero, getD_cons_succ, set_cons_zero, set_cons_succ, zero_add, add_zero, mul_one, zero_mul, m2, m3, m4]
  refine plan_p (v := BV false) rfl rfl (pr_move_v (by show BV (!(_ == (al.length == 16))) = _; rw [beq_eq_false_iff_ne.2 h16]; rfl)) ?_
  try simp only [n0, n1, n2, n3, getD_cons_zero, getD_cons_succ, set_cons_zero, set_cons_succ, zero_add, add_zero, mul_one, zero_mul, m2, m3, m4]
  refine plan_p rfl rfl pr_move ?_
  try simp only [n0, n1, n2, n3, getD_cons_zero, getD_cons_succ, set_cons_zero, set_cons_succ, zero_add, add_zero, mul_one, zero_mul, m2, m3, m4]
  refine plan_p rfl rfl (pr_bin rfl rfl (bin_neq_pn Try.underlying49)) ?_
  try simp only [n0, n1, n2, n3, getD_cons_zero, getD_cons_succ, set_cons_zero, set_cons_succ, zero_add, add_zero, mul_one, zero_mul, m2, m3, m4]
  refine plan_p rfl rfl pr_move ?_
  try simp only [n0, n1, n2, n3, getD_cons_zero, getD_cons_succ, set_cons_zero, set_cons_succ, zero_add, add_zero, mul_one, zero_mul, m2, m3, m4]
  refine plan_p rfl rfl (pr_bin rfl rfl (by first | exact bin_eql_n (n := 0)  | exact bin_eql_i)) ?_
  try simp only [n0, n1, n2, n3, getD_cons_zero, getD_cons_succ, set_cons_zero, set_cons_succ, zero_add, add_zero, mul_one, zero_mul, m2, m3, m4]
  refine plan_p rfl rfl (pr_bin rfl rfl (bin_neq_b Try.underlying4)) ?_
  try simp only [n0, n1, n2, n3, getD_cons_zero, getD_cons_succ, set_cons_zero, set_cons_succ, zero_add, add_zero, mul_one, zero_mul, m2, m3, m4]
  refine plan_p rfl rfl (pr_pick_f rfl) ?_
  try simp only [n0, n1, n2, n3, getD_cons_zero, getD_cons_succ, set_cons_zero, set_cons_succ, zero_add, add_zero, mul_one, zero_mul, m2, m3, m4]
  refine plan_nil hH ?_
  clear hH
  intro w7 hH
  refine hK6 _ _ ?_
  try clear hK6 K6
  refine wp_cond_false rfl ?_
  refine wp_skip ?_
  refine hK5 _ _ ?_
  try clear hK5 K5
  refine wp_seq_k ?_
  intro K8 hK8
  refine wp_region_text [.x 0, .x 1, .p 2, .p 3, .p 4, .p 5, .p 6] rfl ?_
  refine plan_make (n := 16) (c := 16) rfl rfl hH rfl rfl Try.underlying27 sz5 bz5 ze5 rfl (by omega) (by omega) (by omega) ?_
  clear hH
  intro b9 w10 hH
  try simp only [n0, n1, n2, n3, getD_cons_zero, getD_cons_succ, set_cons_zero, set_cons_succ, zero_add, add_zero, mul_one, zero_mul, m2, m3, m4] at hH ⊢
  rw [made_arr8] at hH
  try simp only [n0, n1, n2, n3, getD_cons_zero, getD_cons_succ, set_cons_zero, set_cons_succ, zero_add, add_zero, mul_one, zero_mul, m2, m3, m4, m5, m6, m7, Value.cells, arr8_set, arr32_set, arr64_set, arrB_set] at hH ⊢
  refine plan_callx rfl rfl hH cf23 (fun w' hH => gnew_calls _ _ w' (OwnC.sl hH 0 rfl OwnC.made) (by simp)) rfl (fun _ _ _ h => by obtain ⟨_, _, _, hg, _⟩ := h; exact hg) ?_
  clear hH
  intro w11 v12 w13 hH hp14
  obtain ⟨b15, b16, rfl, hg, hfc, hbc, hfx, hbx, hne⟩ := hp14
  replace hH := hH.callnew2 hg hbc hfc hbx hfx hne
  clear hg hfc hbc hfx hbx hne
  try simp only [n0, n1, n2, n3, getD_cons_zero, getD_cons_succ, set_cons_zero, set_cons_succ, zero_add, add_zero, mul_one, zero_mul, m2, m3, m4, m5, m6, m7, Value.cells, arr8_set, arr32_set, arr64_set, arrB_set] at hH ⊢
  try simp only [n0, n1, n2, n3, getD_cons_zero, getD_cons_succ, set_cons_zero, set_cons_succ, zero_add, add_zero, mul_one, zero_mul, m2, m3, m4]
  refine plan_p rfl rfl pr_move ?_
  try simp only [n0, n1, n2, n3, getD_cons_zero, getD_cons_succ, set_cons_zero, set_cons_succ, zero_add, add_zero, mul_one, zero_mul, m2, m3, m4]
  refine plan_p rfl rfl (pr_extract rfl rfl) ?_
  try simp only [n0, n1, n2, n3, getD_cons_zero, getD_cons_succ, set_cons_zero, set_cons_succ, zero_add, add_zero, mul_one, zero_mul, m2, m3, m4]
  refine plan_p rfl rfl (pr_extract rfl rfl) ?_
  try simp only [n0, n1, n2, n3, getD_cons_zero, getD_cons_succ, set_cons_zero, set_cons_succ, zero_add, add_zero, mul_one, zero_mul, m2, m3, m4]
  refine plan_p rfl rfl pr_assign ?_
  try simp only [n0, n1, n2, n3, getD_cons_zero, getD_cons_succ, set_cons_zero, set_cons_succ, zero_add, add_zero, mul_one, zero_mul, m2, m3, m4]
  refine plan_p rfl rfl pr_assign ?_
  try simp only [n0, n1, n2, n3, getD_cons_zero, getD_cons_succ, set_cons_zero, set_cons_succ, zero_add, add_zero, mul_one, zero_mul, m2, m3, m4]
  refine plan_nil hH ?_
  clear hH
  intro w17 hH
  refine hK8 _ _ ?_
  try clear hK8 K8
  refine wp_seq_k ?_
  intro K18 hK18
  refine wp_seq_k ?_
  intro K19 hK19
  refine wp_region_text [.p 0, .p 1] rfl ?_
  refine plan_p rfl rfl pr_move ?_
  try simp only [n0, n1, n2, n3, getD_cons_zero, getD_cons_succ, set_cons_zero, set_cons_succ, zero_add, add_zero, mul_one, zero_mul, m2, m3, m4]
  refine plan_p rfl rfl (pr_bin rfl rfl (by first | exact bin_neq_n (n := 0)  | exact bin_neq_i)) ?_
  try simp only [n0, n1, n2, n3, getD_cons_zero, getD_cons_succ, set_cons_zero, set_cons_succ, zero_add, add_zero, mul_one, zero_mul, m2, m3, m4]
  refine plan_nil hH ?_
  clear hH
  intro w20 hH
  refine hK19 _ _ ?_
  try clear hK19 K19
  refine wp_cond_false rfl ?_
  refine wp_skip ?_
  refine hK18 _ _ ?_
  try clear hK18 K18
  refine wp_seq_k ?_
  intro K21 hK21
  refine wp_region_text [.p 0, .p 1, .x 2, .p 3, .p 4, .p 5, .p 6, .p 7] rfl ?_
  refine plan_p rfl rfl pr_move ?_
  try simp only [n0, n1, n2, n3, getD_cons_zero, getD_cons_succ, set_cons_zero, set_cons_succ, zero_add, add_zero, mul_one, zero_mul, m2, m3, m4]
  refine plan_p rfl rfl pr_move ?_
  try simp only [n0, n1, n2, n3, getD_cons_zero, getD_cons_succ, set_cons_zero, set_cons_succ, zero_add, add_zero, mul_one, zero_mul, m2, m3, m4]
  refine plan_callx rfl rfl hH cf26 (fun w' hH => Seal_calls _ _ _ (hP _) _ _ _ _ _ _ w' (hH.blk 2 rfl) (hH.blk 1 rfl) (ha.chg hH.chg) h12 Sl.nil Sl.nil (by simp)) rfl (fun _ _ _ h => by obtain ⟨_, _, _, _, hg, _⟩ := h; exact hg) ?_
  clear hH
  intro w22 v23 w24 hH hp25
  obtain ⟨o26, cap27, cs28, rfl, hg, hO29, hfr⟩ := hp25
  replace hH := hH.callown hg hfr
  clear hg hfr
  try simp only [n0, n1, n2, n3, getD_cons_zero, getD_cons_succ, set_cons_zero, set_cons_succ, zero_add, add_zero, mul_one, zero_mul, m2, m3, m4, m5, m6, m7, Value.cells, arr8_set, arr32_set, arr64_set, arrB_set] at hH ⊢
  try simp only [n0, n1, n2, n3, getD_cons_zero, getD_cons_succ, set_cons_zero, set_cons_succ, zero_add, add_zero, mul_one, zero_mul, m2, m3, m4]
  refine plan_p rfl rfl pr_move ?_
  try simp only [n0, n1, n2, n3, getD_cons_zero, getD_cons_succ, set_cons_zero, set_cons_succ, zero_add, add_zero, mul_one, zero_mul, m2, m3, m4]
  refine plan_p rfl rfl (pr_extract rfl rfl) ?_
  try simp only [n0, n1, n2, n3, getD_cons_zero, getD_cons_succ, set_cons_zero, set_cons_succ, zero_add, add_zero, mul_one, zero_mul, m2, m3, m4]
  refine plan_p rfl rfl (pr_extract rfl rfl) ?_
  try simp only [n0, n1, n2, n3, getD_cons_zero, getD_cons_succ, set_cons_zero, set_cons_succ, zero_add, add_zero, mul_one, zero_mul, m2, m3, m4]
  refine plan_p rfl rfl pr_assign ?_
  try simp only [n0, n1, n2, n3, getD_cons_zero, getD_cons_succ, set_cons_zero, set_cons_succ, zero_add, add_zero, mul_one, zero_mul, m2, m3, m4]
  refine plan_p rfl rfl pr_assign ?_
  try simp only [n0, n1, n2, n3, getD_cons_zero, getD_cons_succ, set_cons_zero, set_cons_succ, zero_add, add_zero, mul_one, zero_mul, m2, m3, m4]
  refine plan_nil hH ?_
  clear hH
  intro w30 hH
  refine hK21 _ _ ?_
  try clear hK21 K21
  refine wp_seq_k ?_
  intro K31 hK31
  refine wp_region_text [.p 0, .p 1, .x 2, .x 3, .p 4, .p 5, .p 6, .p 7, .p 8] rfl ?_
  refine plan_p rfl rfl pr_move ?_
  try simp only [n0, n1, n2, n3, getD_cons_zero, getD_cons_succ, set_cons_zero, set_cons_succ, zero_add, add_zero, mul_one, zero_mul, m2, m3, m4]
  refine plan_p rfl rfl pr_move ?_
  try simp only [n0, n1, n2, n3, getD_cons_zero, getD_cons_succ, set_cons_zero, set_cons_succ, zero_add, add_zero, mul_one, zero_mul, m2, m3, m4]
  refine plan_make (n := 16) (c := 16) rfl rfl hH rfl rfl Try.underlying27 sz5 bz5 ze5 rfl (by omega) (by omega) (by omega) ?_
  clear hH
  intro b32 w33 hH
  try simp only [n0, n1, n2, n3, getD_cons_zero, getD_cons_succ, set_cons_zero, set_cons_succ, zero_add, add_zero, mul_one, zero_mul, m2, m3, m4] at hH ⊢
  rw [made_arr8] at hH
  try simp only [n0, n1, n2, n3, getD_cons_zero, getD_cons_succ, set_cons_zero, set_cons_succ, zero_add, add_zero, mul_one, zero_mul, m2, m3, m4, m5, m6, m7, Value.cells, arr8_set, arr32_set, arr64_set, arrB_set] at hH ⊢
  refine plan_callx rfl rfl hH cf32 (fun w' hH => Open_calls _ _ _ (hP _) _ _ _ _ _ _ w' (hH.blk 2 rfl) (hH.blk 1 rfl) (ha.chg hH.chg) h12 Sl.nil (OwnC.sl hH 4 rfl OwnC.made) (by simp) (by simp) he) rfl (fun _ _ _ h => by obtain ⟨_, _, _, _, hg, _⟩ := h; exact hg) ?_
  clear hH
  intro w34 v35 w36 hH hp37
  obtain ⟨o38, cap39, cs40, rfl, hg, hO41, hfr⟩ := hp37
  replace hH := hH.callown hg hfr
  clear hg hfr
  try simp only [n0, n1, n2, n3, getD_cons_zero, getD_cons_succ, set_cons_zero, set_cons_succ, zero_add, add_zero, mul_one, zero_mul, m2, m3, m4, m5, m6, m7, Value.cells, arr8_set, arr32_set, arr64_set, arrB_set] at hH ⊢
  try simp only [n0, n1, n2, n3, getD_cons_zero, getD_cons_succ, set_cons_zero, set_cons_succ, zero_add, add_zero, mul_one, zero_mul, m2, m3, m4]
  refine plan_p rfl rfl pr_move ?_
  try simp only [n0, n1, n2, n3, getD_cons_zero, getD_cons_succ, set_cons_zero, set_cons_succ, zero_add, add_zero, mul_one, zero_mul, m2, m3, m4]
  refine plan_p rfl rfl (pr_extract rfl rfl) ?_
  try simp only [n0, n1, n2, n3, getD_cons_zero, getD_cons_succ, set_cons_zero, set_cons_succ, zero_add, add_zero, mul_one, zero_mul, m2, m3, m4]
  refine plan_p rfl rfl (pr_extract rfl rfl) ?_
  try simp only [n0, n1, n2, n3, getD_cons_zero, getD_cons_succ, set_cons_zero, set_cons_succ, zero_add, add_zero, mul_one, zero_mul, m2, m3, m4]
  refine plan_p rfl rfl pr_assign ?_
  try simp only [n0, n1, n2, n3, getD_cons_zero, getD_cons_succ, set_cons_zero, set_cons_succ, zero_add, add_zero, mul_one, zero_mul, m2, m3, m4]
  refine plan_p rfl rfl pr_assign ?_
  try simp only [n0, n1, n2, n3, getD_cons_zero, getD_cons_succ, set_cons_zero, set_cons_succ, zero_add, add_zero, mul_one, zero_mul, m2, m3, m4]
  refine plan_nil hH ?_
  clear hH
  intro w42 hH
  refine hK31 _ _ ?_
  try clear hK31 K31
  refine wp_seq_k ?_
  intro K43 hK43
  refine wp_region_plan [.p 0, .p 2, .p 3, .p 4, .p 5, .p 6, .x 1, .q 7, .p 8, .p 9, .p 10, .p 11, .p 12] (by kernel_rfl) (by kernel_rfl) (by kernel_rfl) (by kernel_rfl) (fun _ _ _ _ _ h => by first | exact h | exact BP.panic _ _ _ _ _ h) ?_
  refine plan_p rfl rfl pr_move ?_
  try simp only [n0, n1, n2, n3, getD_cons_zero, getD_cons_succ, set_cons_zero, set_cons_succ, zero_add, add_zero, mul_one, zero_mul, m2, m3, m4]
  refine plan_p rfl rfl pr_move ?_
  try simp only [n0, n1, n2, n3, getD_cons_zero, getD_cons_succ, set_cons_zero, set_cons_succ, zero_add, add_zero, mul_one, zero_mul, m2, m3, m4]
  refine plan_p rfl rfl pr_move ?_
  try simp only [n0, n1, n2, n3, getD_cons_zero, getD_cons_succ, set_cons_zero, set_cons_succ, zero_add, add_zero, mul_one, zero_mul, m2, m3, m4]
  refine plan_p rfl rfl (pr_len_Sl (hb.chg hH.chg) rfl Try.underlying27) ?_
  try simp only [n0, n1, n2, n3, getD_cons_zero, getD_cons_succ, set_cons_zero, set_cons_succ, zero_add, add_zero, mul_one, zero_mul, m2, m3, m4]
  refine plan_p rfl rfl (by first | exact pr_min_n (n := 15) rfl rfl | exact pr_min rfl rfl) ?_
  try simp only [n0, n1, n2, n3, getD_cons_zero, getD_cons_succ, set_cons_zero, set_cons_succ, zero_add, add_zero, mul_one, zero_mul, m2, m3, m4]
  refine plan_p rfl rfl (pr_slice_Sl_h (hb.chg hH.chg) rfl rfl Try.underlying27 sz5 (by omega)) ?_
  try simp only [n0, n1, n2, n3, getD_cons_zero, getD_cons_succ, set_cons_zero, set_cons_succ, zero_add, add_zero, mul_one, zero_mul, m2, m3, m4]
  refine plan_make (n := 12) (c := 12) rfl rfl hH rfl rfl Try.underlying27 sz5 bz5 ze5 rfl (by omega) (by omega) (by omega) ?_
  clear hH
  intro b44 w45 hH
  try simp only [n0, n1, n2, n3, getD_cons_zero, getD_cons_succ, set_cons_zero, set_cons_succ, zero_add, add_zero, mul_one, zero_mul, m2, m3, m4] at hH ⊢
  rw [made_arr8] at hH
  try simp only [n0, n1, n2, n3, getD_cons_zero, getD_cons_succ, set_cons_zero, set_cons_succ, zero_add, add_zero, mul_one, zero_mul, m2, m3, m4, m5, m6, m7, Value.cells, arr8_set, arr32_set, arr64_set, arrB_set] at hH ⊢
  refine plan_q rfl rfl (qr_call cf32 (fun w' hw => Open_short _ _ _ _ _ _ w' ((OwnC.sl hH 6 rfl OwnC.made).chg hw) (by simp) ((Sl.cuth (hb.chg hH.chg) (by omega)).chg hw) (by simp; omega)) rfl) ?_
  try simp only [n0, n1, n2, n3, getD_cons_zero, getD_cons_succ, set_cons_zero, set_cons_succ, zero_add, add_zero, mul_one, zero_mul, m2, m3, m4]
  refine plan_p rfl rfl pr_move ?_
  try simp only [n0, n1, n2, n3, getD_cons_zero, getD_cons_succ, set_cons_zero, set_cons_succ, zero_add, add_zero, mul_one, zero_mul, m2, m3, m4]
  refine plan_p rfl rfl (pr_extract rfl rfl) ?_
  try simp only [n0, n1, n2, n3, getD_cons_zero, getD_cons_succ, set_cons_zero, set_cons_succ, zero_add, add_zero, mul_one, zero_mul, m2, m3, m4]
  refine plan_p rfl rfl (pr_extract rfl rfl) ?_
  try simp only [n0, n1, n2, n3, getD_cons_zero, getD_cons_succ, set_cons_zero, set_cons_succ, zero_add, add_zero, mul_one, zero_mul, m2, m3, m4]
  refine plan_p rfl rfl pr_assign ?_
  try simp only [n0, n1, n2, n3, getD_cons_zero, getD_cons_succ, set_cons_zero, set_cons_succ, zero_add, add_zero, mul_one, zero_mul, m2, m3, m4]
  refine plan_p rfl rfl pr_assign ?_
  try simp only [n0, n1, n2, n3, getD_cons_zero, getD_cons_succ, set_cons_zero, set_cons_succ, zero_add, add_zero, mul_one, zero_mul, m2, m3, m4]
  refine plan_nil hH ?_
  clear hH
  intro w46 hH
  refine hK43 _ _ ?_
  try clear hK43 K43
  refine wp_seq_k ?_
  intro K47 hK47
  refine wp_region_text [.p 0, .p 1, .p 2, .p 3, .p 4, .p 5, .p 6, .p 7, .p 8, .p 9, .p 10, .p 11, .p 12, .p 13, .p 14, .p 15, .p 16, .p 17, .p 18] rfl ?_
  refine plan_p rfl rfl pr_move ?_
  try simp only [n0, n1, n2, n3, getD_cons_zero, getD_cons_succ, set_cons_zero, set_cons_succ, zero_add, add_zero, mul_one, zero_mul, m2, m3, m4]
  refine plan_p rfl rfl (pr_bin rfl rfl (by first | exact bin_eql_n (n := 1)  | exact bin_eql_i)) ?_
  try simp only [n0, n1, n2, n3, getD_cons_zero, getD_cons_succ, set_cons_zero, set_cons_succ, zero_add, add_zero, mul_one, zero_mul, m2, m3, m4]
  refine plan_p rfl rfl pr_move ?_
  try simp only [n0, n1, n2, n3, getD_cons_zero, getD_cons_succ, set_cons_zero, set_cons_succ, zero_add, add_zero, mul_one, zero_mul, m2, m3, m4]
  refine plan_p rfl rfl (pr_len_Sl (ha.chg hH.chg) rfl Try.underlying27) ?_
  try simp only [n0, n1, n2, n3, getD_cons_zero, getD_cons_succ, set_cons_zero, set_cons_succ, zero_add, add_zero, mul_one, zero_mul, m2, m3, m4]
  refine plan_p rfl rfl (pr_bin rfl rfl (by first | exact bin_neq_n (n := 12)  | exact bin_neq_i)) ?_
  try simp only [n0, n1, n2, n3, getD_cons_zero, getD_cons_succ, set_cons_zero, set_cons_succ, zero_add, add_zero, mul_one, zero_mul, m2, m3, m4]
  refine plan_p rfl rfl (pr_bin rfl rfl (bin_eql_b Try.underlying4)) ?_
  try simp only [n0, n1, n2, n3, getD_cons_zero, getD_cons_succ, set_cons_zero, set_cons_succ, zero_add, add_zero, mul_one, zero_mul, m2, m3, m4]
  refine plan_p (v := BV true) rfl rfl (pr_move_v (by show BV (_ == (al.length != 12)) = _; rw [h12]; rfl)) ?_
  try simp only [n0, n1, n2, n3, getD_cons_zero, getD_cons_succ, set_cons_zero, set_cons_succ, zero_add, add_zero, mul_one, zero_mul, m2, m3, m4]
  refine plan_p rfl rfl pr_move ?_
  try simp only [n0, n1, n2, n3, getD_cons_zero, getD_cons_succ, set_cons_zero, set_cons_succ, zero_add, add_zero, mul_one, zero_mul, m2, m3, m4]
  refine plan_p rfl rfl (pr_bin rfl rfl (by first | exact bin_eql_n (n := 1)  | exact bin_eql_i)) ?_
  try simp only [n0, n1, n2, n3, getD_cons_zero, getD_cons_succ, set_cons_zero, set_cons_succ, zero_add, add_zero, mul_one, zero_mul, m2, m3, m4]
  refine plan_p rfl rfl pr_move ?_
  try simp only [n0, n1, n2, n3, getD_cons_zero, getD_cons_succ, set_cons_zero, set_cons_succ, zero_add, add_zero, mul_one, zero_mul, m2, m3, m4]
  refine plan_p rfl rfl (pr_len_Sl (ha.chg hH.chg) rfl Try.underlying27) ?_
  try simp only [n0, n1, n2, n3, getD_cons_zero, getD_cons_succ, set_cons_zero, set_cons_succ, zero_add, add_zero, mul_one, zero_mul, m2, m3, m4]
  refine plan_p rfl rfl (pr_bin rfl rfl (by first | exact bin_neq_n (n := 12)  | exact bin_neq_i)) ?_
  try simp only [n0, n1, n2, n3, getD_cons_zero, getD_cons_succ, set_cons_zero, set_cons_succ, zero_add, add_zero, mul_one, zero_mul, m2, m3, m4]
  refine plan_p rfl rfl (pr_bin rfl rfl (bin_eql_b Try.underlying4)) ?_
  try simp only [n0, n1, n2, n3, getD_cons_zero, getD_cons_succ, set_cons_zero, set_cons_succ, zero_add, add_zero, mul_one, zero_mul, m2, m3, m4]
  refine plan_p rfl rfl (pr_pick_t rfl) ?_
  try simp only [n0, n1, n2, n3, getD_cons_zero, getD_cons_succ, set_cons_zero, set_cons_succ, zero_add, add_zero, mul_one, zero_mul, m2, m3, m4]
  refine plan_p (v := BV true) rfl rfl (pr_move_v (by show BV (_ == (al.length != 12)) = _; rw [h12]; rfl)) ?_
  try simp only [n0, n1, n2, n3, getD_cons_zero, getD_cons_succ, set_cons_zero, set_cons_succ, zero_add, add_zero, mul_one, zero_mul, m2, m3, m4]
  refine plan_p rfl rfl pr_move ?_
  try simp only [n0, n1, n2, n3, getD_cons_zero, getD_cons_succ, set_cons_zero, set_cons_succ, zero_add, add_zero, mul_one, zero_mul, m2, m3, m4]
  refine plan_p rfl rfl (pr_bin rfl rfl (by first | exact bin_eql_n (n := 3)  | exact bin_eql_i)) ?_
  try simp only [n0, n1, n2, n3, getD_cons_zero, getD_cons_succ, set_cons_zero, set_cons_succ, zero_add, add_zero, mul_one, zero_mul, m2, m3, m4]
  refine plan_p rfl rfl (pr_pick_t rfl) ?_
  try simp only [n0, n1, n2, n3, getD_cons_zero, getD_cons_succ, set_cons_zero, set_cons_succ, zero_add, add_zero, mul_one, zero_mul, m2, m3, m4]
  refine plan_p rfl rfl pr_assign ?_
  try simp only [n0, n1, n2, n3, getD_cons_zero, getD_cons_succ, set_cons_zero, set_cons_succ, zero_add, add_zero, mul_one, zero_mul, m2, m3, m4]
  refine plan_nil hH ?_
  clear hH
  intro w48 hH
  refine hK47 _ _ ?_
  try clear hK47 K47
  refine wp_ret ?_
  try simp only [Exit.then, Exit.inBlock, ↓reduceIte, Nat.reduceEqDiff]
  refine BP.ret1 rfl rfl ?_
  exact ⟨rfl, hH.chg⟩

theorem gcmsame_calls (a b : Value) (al bl : List UInt8) (w : World) (ha : Sl w a al) (hb : Sl w b bl) (hal : al.length < 9223372036854775808) (hbl : bl.length < 9223372036854775808) : Ret Try.prog 14 #[a, b] w fun v w' => v = BV true ∧ Chg [] w w' := by
  by_cases h16 : al.length = 16
  · exact gcmsame_key a b al bl w ha hb hal hbl h16 (by omega)
  · by_cases h12 : al.length = 12
    · by_cases he : sealL (kexp fun i => ((List.range 16).map fun _ => (0 : UInt8)).getD i 0) (hP (kexp fun i => ((List.range 16).map fun _ => (0 : UInt8)).getD i 0)) al [] (((List.range 16).map fun _ => (0 : UInt8)).take (((List.range 16).map fun _ => (0 : UInt8)).length - 16)) = ((List.range 16).map fun _ => (0 : UInt8)).drop (((List.range 16).map fun _ => (0 : UInt8)).length - 16)
      · exact gcmsame_right a b al bl w ha hb hal hbl h16 h12 he
      · exact gcmsame_wrong a b al bl w ha hb hal hbl h16 h12 he
    · exact gcmsame_other a b al bl w ha hb hal hbl h16 h12

end Go.Proofs.Ytjbohfonjalfnaa
