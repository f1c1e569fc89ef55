/- Walks of zero and of the law GcmSpoilt, case by case. No conditions but the cases. -/
import Derived.Test.YtjbohfonjalfnaaGcmT
import Derived.Test.YtjbohfonjalfnaaFork
set_option linter.unusedSimpArgs false
set_option linter.unusedVariables false
set_option maxRecDepth 100000
set_option maxHeartbeats 4000000
namespace Go.Proofs.Ytjbohfonjalfnaa
open Go
open List (getD_cons_zero getD_cons_succ set_cons_zero set_cons_succ)
open Nat (zero_add add_zero mul_one zero_mul)

theorem zero_calls (f : Nat → UInt8) (w : World) (hz : hP (kexp fun i => ((List.range 16).map fun i => f i).getD i 0) = (0, 0)) : Ret Try.prog 33 #[.agg (arr8 16 f)] w fun v w' => v = BV true ∧ Chg [] w w' := by
  refine Ret.enter Try.func33 rfl ?_
  simp only [Try.ntmps33, List.size_toArray, List.length_cons, List.length_nil, Nat.reduceAdd, Nat.reduceSub, frame_enter, List.replicate_succ, List.replicate_zero, List.nil_append, List.cons_append]
  have hH := Hp.start [] w
  refine wp_seq_k ?_
  intro K1 hK1
  refine wp_region_text [.x 0, .p 1] rfl ?_
  refine plan_box rfl rfl hH rfl ?_
  clear hH
  intro b2 w3 hH
  try simp only [n0, n1, n2, n3, getD_cons_zero, getD_cons_succ, set_cons_zero, set_cons_succ, zero_add, add_zero, mul_one, zero_mul, m2, m3, m4, m5, m6, m7, Value.cells, arr8_set, arr32_set, arr64_set, arrB_set] at hH ⊢
  refine plan_p rfl rfl pr_assign ?_
  try simp only [n0, n1, n2, n3, getD_cons_zero, getD_cons_succ, set_cons_zero, set_cons_succ, zero_add, add_zero, mul_one, zero_mul, m2, m3, m4]
  refine plan_nil hH ?_
  clear hH
  intro w4 hH
  refine hK1 _ _ ?_
  try clear hK1 K1
  refine wp_seq_k ?_
  intro K5 hK5
  refine wp_region_text [.p 0, .q 1, .q 2, .p 3, .p 4, .p 5, .p 6, .p 7] rfl ?_
  refine plan_p rfl rfl (pr_slice_arr_all rfl Try.underlying22 sz5) ?_
  try simp only [n0, n1, n2, n3, getD_cons_zero, getD_cons_succ, set_cons_zero, set_cons_succ, zero_add, add_zero, mul_one, zero_mul, m2, m3, m4]
  try simp only [Nat.mul_one, Nat.zero_add, Nat.add_sub_cancel_left]
  refine plan_q rfl rfl (qr_b2s (Sl.of_arr8 (hH.blk 0 rfl) (by omega) (by omega)) rfl Try.underlying27 Try.underlying5 Try.underlying9) ?_
  try simp only [n0, n1, n2, n3, getD_cons_zero, getD_cons_succ, set_cons_zero, set_cons_succ, zero_add, add_zero, mul_one, zero_mul, m2, m3, m4]
  refine plan_q rfl rfl (qr_call cf30 (fun w' hw => refSeal_calls ⟨((List.range 16).map fun i => f i).toArray⟩ _ ⟨#[]⟩ ⟨#[]⟩ w' (by simp) (by rfl) (by decide) (by decide)) rfl) ?_
  try simp only [n0, n1, n2, n3, getD_cons_zero, getD_cons_succ, set_cons_zero, set_cons_succ, zero_add, add_zero, mul_one, zero_mul, m2, m3, m4]
  refine plan_p rfl rfl pr_move ?_
  try simp only [n0, n1, n2, n3, getD_cons_zero, getD_cons_succ, set_cons_zero, set_cons_succ, zero_add, add_zero, mul_one, zero_mul, m2, m3, m4]
  refine plan_p rfl rfl (pr_extract rfl rfl) ?_
  try simp only [n0, n1, n2, n3, getD_cons_zero, getD_cons_succ, set_cons_zero, set_cons_succ, zero_add, add_zero, mul_one, zero_mul, m2, m3, m4]
  refine plan_p rfl rfl (pr_extract rfl rfl) ?_
  try simp only [n0, n1, n2, n3, getD_cons_zero, getD_cons_succ, set_cons_zero, set_cons_succ, zero_add, add_zero, mul_one, zero_mul, m2, m3, m4]
  refine plan_p rfl rfl pr_assign ?_
  try simp only [n0, n1, n2, n3, getD_cons_zero, getD_cons_succ, set_cons_zero, set_cons_succ, zero_add, add_zero, mul_one, zero_mul, m2, m3, m4]
  refine plan_p rfl rfl pr_assign ?_
  try simp only [n0, n1, n2, n3, getD_cons_zero, getD_cons_succ, set_cons_zero, set_cons_succ, zero_add, add_zero, mul_one, zero_mul, m2, m3, m4]
  refine plan_nil hH ?_
  clear hH
  intro w6 hH
  refine hK5 _ _ ?_
  try clear hK5 K5
  refine wp_seq_k ?_
  intro K7 hK7
  refine wp_region_text [.p 0, .q 1, .q 2, .p 3, .p 4, .p 5, .p 6, .p 7] rfl ?_
  refine plan_p rfl rfl (pr_slice_arr_all rfl Try.underlying22 sz5) ?_
  try simp only [n0, n1, n2, n3, getD_cons_zero, getD_cons_succ, set_cons_zero, set_cons_succ, zero_add, add_zero, mul_one, zero_mul, m2, m3, m4]
  try simp only [Nat.mul_one, Nat.zero_add, Nat.add_sub_cancel_left]
  refine plan_q rfl rfl (qr_b2s (Sl.of_arr8 (hH.blk 0 rfl) (by omega) (by omega)) rfl Try.underlying27 Try.underlying5 Try.underlying9) ?_
  try simp only [n0, n1, n2, n3, getD_cons_zero, getD_cons_succ, set_cons_zero, set_cons_succ, zero_add, add_zero, mul_one, zero_mul, m2, m3, m4]
  refine plan_q rfl rfl (qr_call cf30 (fun w' hw => refSeal_calls ⟨((List.range 16).map fun i => f i).toArray⟩ _ ⟨#[120]⟩ ⟨#[]⟩ w' (by simp) (by rfl) (by decide) (by decide)) rfl) ?_
  try simp only [n0, n1, n2, n3, getD_cons_zero, getD_cons_succ, set_cons_zero, set_cons_succ, zero_add, add_zero, mul_one, zero_mul, m2, m3, m4]
  refine plan_p rfl rfl pr_move ?_
  try simp only [n0, n1, n2, n3, getD_cons_zero, getD_cons_succ, set_cons_zero, set_cons_succ, zero_add, add_zero, mul_one, zero_mul, m2, m3, m4]
  refine plan_p rfl rfl (pr_extract rfl rfl) ?_
  try simp only [n0, n1, n2, n3, getD_cons_zero, getD_cons_succ, set_cons_zero, set_cons_succ, zero_add, add_zero, mul_one, zero_mul, m2, m3, m4]
  refine plan_p rfl rfl (pr_extract rfl rfl) ?_
  try simp only [n0, n1, n2, n3, getD_cons_zero, getD_cons_succ, set_cons_zero, set_cons_succ, zero_add, add_zero, mul_one, zero_mul, m2, m3, m4]
  refine plan_p rfl rfl pr_assign ?_
  try simp only [n0, n1, n2, n3, getD_cons_zero, getD_cons_succ, set_cons_zero, set_cons_succ, zero_add, add_zero, mul_one, zero_mul, m2, m3, m4]
  refine plan_p rfl rfl pr_assign ?_
  try simp only [n0, n1, n2, n3, getD_cons_zero, getD_cons_succ, set_cons_zero, set_cons_succ, zero_add, add_zero, mul_one, zero_mul, m2, m3, m4]
  refine plan_nil hH ?_
  clear hH
  intro w8 hH
  refine hK7 _ _ ?_
  try clear hK7 K7
  refine wp_seq_k ?_
  intro K9 hK9
  refine wp_region_text [.p 0, .p 1, .p 2, .p 3] rfl ?_
  refine plan_p rfl rfl pr_move ?_
  try simp only [n0, n1, n2, n3, getD_cons_zero, getD_cons_succ, set_cons_zero, set_cons_succ, zero_add, add_zero, mul_one, zero_mul, m2, m3, m4]
  refine plan_p rfl rfl pr_move ?_
  try simp only [n0, n1, n2, n3, getD_cons_zero, getD_cons_succ, set_cons_zero, set_cons_succ, zero_add, add_zero, mul_one, zero_mul, m2, m3, m4]
  refine plan_p rfl rfl (pr_bin rfl rfl bin_eql_s) ?_
  try simp only [n0, n1, n2, n3, getD_cons_zero, getD_cons_succ, set_cons_zero, set_cons_succ, zero_add, add_zero, mul_one, zero_mul, m2, m3, m4]
  refine plan_p rfl rfl pr_assign ?_
  try simp only [n0, n1, n2, n3, getD_cons_zero, getD_cons_succ, set_cons_zero, set_cons_succ, zero_add, add_zero, mul_one, zero_mul, m2, m3, m4]
  refine plan_nil hH ?_
  clear hH
  intro w10 hH
  refine hK9 _ _ ?_
  try clear hK9 K9
  refine wp_ret ?_
  try simp only [Exit.then, Exit.inBlock, ↓reduceIte, Nat.reduceEqDiff]
  refine BP.ret1 rfl rfl ?_
  refine ⟨congrArg BV (beq_iff_eq.2 (?_ : sealedL (kexp fun i => ((List.range 16).map fun i => f i).getD i 0) (hP (kexp fun i => ((List.range 16).map fun i => f i).getD i 0)) _ [] [] = sealedL (kexp fun i => ((List.range 16).map fun i => f i).getD i 0) (hP (kexp fun i => ((List.range 16).map fun i => f i).getD i 0)) _ [120] [])), hH.chg⟩
  rw [hz]
  unfold sealedL
  rw [seal_nought _ _ [] [120]]

theorem spoilt_none (f : Nat → UInt8) (nv av bv : Value) (nl al bl : List UInt8) (n : Int) (x : UInt8) (k : Nat) (w : World) (hn : Sl w nv nl) (ha : Sl w av al) (hb : Sl w bv bl) (hnl : nl.length ≤ reachBytes) (hk : (UInt64.ofNat (n % 18446744073709551616).toNat % UInt64.ofNat ((bl.take (min bl.length 120)).length + 16 + (al.take (min al.length 120)).length)).toNat = k) (hkl : k < ((bl.take (min bl.length 120)).length + 16 + (al.take (min al.length 120)).length)) (hx : x = 0) (he : toldEq (kexp fun i => ((List.range 16).map fun i => f i).getD i 0) (hP (kexp fun i => ((List.range 16).map fun i => f i).getD i 0)) (nonceL nl) (sealedL (kexp fun i => ((List.range 16).map fun i => f i).getD i 0) (hP (kexp fun i => ((List.range 16).map fun i => f i).getD i 0)) (nonceL nl) (al.take (min al.length 120)) (bl.take (min bl.length 120))) (al.take (min al.length 120)) k x) : Ret Try.prog 13 #[.agg (letterC f nv av bv), I64 n, V8 x] w fun v w' => v = BV true ∧ Chg [] w w' := by
  have hr : reachBytes = 140737488351232 := rfl
  have hcut : (bl.take (min bl.length 120)).length ≤ 120 := by simp; omega
  have hcuta : (al.take (min al.length 120)).length ≤ 120 := by simp; omega
  have hnz : UInt64.ofNat ((bl.take (min bl.length 120)).length + 16 + (al.take (min al.length 120)).length) ≠ 0 := fun h => by have := congrArg UInt64.toNat h; rw [ofNat_toNat64 _ (by omega)] at this; simp at this
  refine Ret.enter Try.func13 rfl ?_
  simp only [Try.ntmps13, List.size_toArray, List.length_cons, List.length_nil, Nat.reduceAdd, Nat.reduceSub, frame_enter, List.replicate_succ, List.replicate_zero, List.nil_append, List.cons_append]
  have hH := Hp.start [] w
  refine wp_seq_k ?_
  intro K1 hK1
  refine wp_region_text [.x 0, .p 1] rfl ?_
  refine plan_box rfl rfl hH rfl ?_
  clear hH
  intro b2 w3 hH
  try simp only [n0, n1, n2, n3, getD_cons_zero, getD_cons_succ, set_cons_zero, set_cons_succ, zero_add, add_zero, mul_one, zero_mul, m2, m3, m4, m5, m6, m7, Value.cells, arr8_set, arr32_set, arr64_set, arrB_set] at hH ⊢
  refine plan_p rfl rfl pr_assign ?_
  try simp only [n0, n1, n2, n3, getD_cons_zero, getD_cons_succ, set_cons_zero, set_cons_succ, zero_add, add_zero, mul_one, zero_mul, m2, m3, m4]
  refine plan_nil hH ?_
  clear hH
  intro w4 hH
  refine hK1 _ _ ?_
  try clear hK1 K1
  refine wp_seq_k ?_
  intro K5 hK5
  refine wp_region_text [.p 0, .p 1, .x 2, .p 3, .p 4, .p 5, .p 6, .p 7] rfl ?_
  refine plan_p rfl rfl (pr_fieldAddr 0 rfl Try.underlying48 rfl rfl sz22) ?_
  try simp only [n0, n1, n2, n3, getD_cons_zero, getD_cons_succ, set_cons_zero, set_cons_succ, zero_add, add_zero, mul_one, zero_mul, m2, m3, m4]
  refine plan_p rfl rfl (pr_slice_arr_all rfl Try.underlying22 sz5) ?_
  try simp only [n0, n1, n2, n3, getD_cons_zero, getD_cons_succ, set_cons_zero, set_cons_succ, zero_add, add_zero, mul_one, zero_mul, m2, m3, m4]
  try simp only [Nat.mul_one, Nat.zero_add, Nat.add_sub_cancel_left]
  refine plan_callx rfl rfl hH cf23 (fun w' hH => gnew_calls _ _ w' (letter_key (hH.blk 0 rfl)) (by simp)) rfl (fun _ _ _ h => by obtain ⟨_, _, _, hg, _⟩ := h; exact hg) ?_
  clear hH
  intro w6 v7 w8 hH hp9
  obtain ⟨b10, b11, rfl, hg, hfc, hbc, hfx, hbx, hne⟩ := hp9
  replace hH := hH.callnew2 hg hbc hfc hbx hfx hne
  clear hg hfc hbc hfx hbx hne
  try simp only [n0, n1, n2, n3, getD_cons_zero, getD_cons_succ, set_cons_zero, set_cons_succ, zero_add, add_zero, mul_one, zero_mul, m2, m3, m4, m5, m6, m7, Value.cells, arr8_set, arr32_set, arr64_set, arrB_set] at hH ⊢
  try simp only [n0, n1, n2, n3, getD_cons_zero, getD_cons_succ, set_cons_zero, set_cons_succ, zero_add, add_zero, mul_one, zero_mul, m2, m3, m4]
  refine plan_p rfl rfl pr_move ?_
  try simp only [n0, n1, n2, n3, getD_cons_zero, getD_cons_succ, set_cons_zero, set_cons_succ, zero_add, add_zero, mul_one, zero_mul, m2, m3, m4]
  refine plan_p rfl rfl (pr_extract rfl rfl) ?_
  try simp only [n0, n1, n2, n3, getD_cons_zero, getD_cons_succ, set_cons_zero, set_cons_succ, zero_add, add_zero, mul_one, zero_mul, m2, m3, m4]
  refine plan_p rfl rfl (pr_extract rfl rfl) ?_
  try simp only [n0, n1, n2, n3, getD_cons_zero, getD_cons_succ, set_cons_zero, set_cons_succ, zero_add, add_zero, mul_one, zero_mul, m2, m3, m4]
  refine plan_p rfl rfl pr_assign ?_
  try simp only [n0, n1, n2, n3, getD_cons_zero, getD_cons_succ, set_cons_zero, set_cons_succ, zero_add, add_zero, mul_one, zero_mul, m2, m3, m4]
  refine plan_p rfl rfl pr_assign ?_
  try simp only [n0, n1, n2, n3, getD_cons_zero, getD_cons_succ, set_cons_zero, set_cons_succ, zero_add, add_zero, mul_one, zero_mul, m2, m3, m4]
  refine plan_nil hH ?_
  clear hH
  intro w12 hH
  refine hK5 _ _ ?_
  try clear hK5 K5
  refine wp_seq_k ?_
  intro K13 hK13
  refine wp_seq_k ?_
  intro K14 hK14
  refine wp_region_text [.q 0, .p 1, .p 2, .p 3, .p 4, .p 5] rfl ?_
  refine plan_q rfl rfl (qr_call cf24 (fun w' hw => sealed_calls w') rfl) ?_
  try simp only [n0, n1, n2, n3, getD_cons_zero, getD_cons_succ, set_cons_zero, set_cons_succ, zero_add, add_zero, mul_one, zero_mul, m2, m3, m4]
  refine plan_p rfl rfl (pr_not rfl) ?_
  try simp only [n0, n1, n2, n3, getD_cons_zero, getD_cons_succ, set_cons_zero, set_cons_succ, zero_add, add_zero, mul_one, zero_mul, m2, m3, m4]
  refine plan_p (v := BV false) rfl rfl (pr_move_v rfl) ?_
  try simp only [n0, n1, n2, n3, getD_cons_zero, getD_cons_succ, set_cons_zero, set_cons_succ, zero_add, add_zero, mul_one, zero_mul, m2, m3, m4]
  refine plan_p rfl rfl pr_move ?_
  try simp only [n0, n1, n2, n3, getD_cons_zero, getD_cons_succ, set_cons_zero, set_cons_succ, zero_add, add_zero, mul_one, zero_mul, m2, m3, m4]
  refine plan_p rfl rfl (pr_bin rfl rfl (by first | exact bin_neq_n (n := 0)  | exact bin_neq_i)) ?_
  try simp only [n0, n1, n2, n3, getD_cons_zero, getD_cons_succ, set_cons_zero, set_cons_succ, zero_add, add_zero, mul_one, zero_mul, m2, m3, m4]
  refine plan_p rfl rfl (pr_pick_f rfl) ?_
  try simp only [n0, n1, n2, n3, getD_cons_zero, getD_cons_succ, set_cons_zero, set_cons_succ, zero_add, add_zero, mul_one, zero_mul, m2, m3, m4]
  refine plan_nil hH ?_
  clear hH
  intro w15 hH
  refine hK14 _ _ ?_
  try clear hK14 K14
  refine wp_cond_false rfl ?_
  refine wp_skip ?_
  refine hK13 _ _ ?_
  try clear hK13 K13
  refine wp_seq_k ?_
  intro K16 hK16
  refine wp_region_text [.x 0, .p 1, .q 2, .e 3, .e 4, .p 5, .p 6] rfl ?_
  refine plan_buildSlice rfl rfl hH Try.underlying27 (by rfl) (bs0 ) ?_
  clear hH
  intro b17 w18 hH
  try simp only [n0, n1, n2, n3, getD_cons_zero, getD_cons_succ, set_cons_zero, set_cons_succ, zero_add, add_zero, mul_one, zero_mul, m2, m3, m4, m5, m6, m7, Value.cells, arr8_set, arr32_set, arr64_set, arrB_set] at hH ⊢
  refine plan_p rfl rfl (pr_fieldAddr 16 rfl Try.underlying48 rfl rfl sz27) ?_
  try simp only [n0, n1, n2, n3, getD_cons_zero, getD_cons_succ, set_cons_zero, set_cons_succ, zero_add, add_zero, mul_one, zero_mul, m2, m3, m4]
  refine plan_q rfl rfl (qr_load1 rfl Try.underlying27 rfl ((hH.blk 0 rfl).cell letterC_nonce)) ?_
  try simp only [n0, n1, n2, n3, getD_cons_zero, getD_cons_succ, set_cons_zero, set_cons_succ, zero_add, add_zero, mul_one, zero_mul, m2, m3, m4]
  refine plan_append 3 rfl rfl hH rfl (OwnC.of_bytes rfl) (fun w' hH => ((hn.chg hH.chg)).src) rfl rfl Try.underlying27 Try.underlying27 (.inl ⟨_, rfl⟩) sz5 bz5 ze5 rfl (by first | omega | (simp <;> omega)) (by first | omega | (simp <;> omega)) ?_
  clear hH
  intro o19 cap20 cs21 w22 hO23 hH
  try simp only [n0, n1, n2, n3, getD_cons_zero, getD_cons_succ, set_cons_zero, set_cons_succ, zero_add, add_zero, mul_one, zero_mul, m2, m3, m4] at hH ⊢
  try simp only [n0, n1, n2, n3, getD_cons_zero, getD_cons_succ, set_cons_zero, set_cons_succ, zero_add, add_zero, mul_one, zero_mul, m2, m3, m4, m5, m6, m7, Value.cells, arr8_set, arr32_set, arr64_set, arrB_set] at hH ⊢
  try rw [← List.map_append] at hO23
  try simp only [Nat.zero_add, List.nil_append, List.length_nil] at hO23 ⊢
  refine plan_appendz 3 (m := 12) rfl rfl hH rfl hO23 rfl rfl (by decide) Try.underlying27 Try.underlying3 sz5 bz5 ze5 (by first | omega | (simp <;> omega)) ?_
  clear hH
  intro o24 cap25 cs26 w27 hO28 hH
  try simp only [n0, n1, n2, n3, getD_cons_zero, getD_cons_succ, set_cons_zero, set_cons_succ, zero_add, add_zero, mul_one, zero_mul, m2, m3, m4] at hH ⊢
  try simp only [n0, n1, n2, n3, getD_cons_zero, getD_cons_succ, set_cons_zero, set_cons_succ, zero_add, add_zero, mul_one, zero_mul, m2, m3, m4, m5, m6, m7, Value.cells, arr8_set, arr32_set, arr64_set, arrB_set] at hH ⊢
  rw [← List.map_append] at hO28
  refine plan_p rfl rfl (pr_slice_Sl_h (hi := 12) (OwnC.sl hH 3 rfl hO28) rfl rfl Try.underlying27 sz5 (by first | omega | (first | exact Nat.lt_trans (u64_mod_k _ _ _ (ofNat_toNat64 ((bl.take (min bl.length 120)).length + 16 + (al.take (min al.length 120)).length) (by omega)) (by omega)) (by omega) | (simp only [List.length_set, sealedL_len]; omega) | (simp; omega) | simp))) ?_
  try simp only [n0, n1, n2, n3, getD_cons_zero, getD_cons_succ, set_cons_zero, set_cons_succ, zero_add, add_zero, mul_one, zero_mul, m2, m3, m4]
  refine plan_p rfl rfl pr_assign ?_
  try simp only [n0, n1, n2, n3, getD_cons_zero, getD_cons_succ, set_cons_zero, set_cons_succ, zero_add, add_zero, mul_one, zero_mul, m2, m3, m4]
  refine plan_nil hH ?_
  clear hH
  intro w29 hH
  refine hK16 _ _ ?_
  try clear hK16 K16
  refine wp_seq_k ?_
  intro K30 hK30
  obtain ⟨N31, hNw32, hNb33⟩ := hH.sizeN
  refine wp_region_pend [] [4] (ChgN N31) (by kernel_rfl) ?_
  refine Pend.plan (n := 0) (Far.chgN N31) (by kernel_rfl) (fun _ _ _ _ _ h => by first | exact h | exact BP.panic _ _ _ _ _ h) [.p 1, .p 5, .r 2 (ChgN N31), .q 3, .r 6 (ChgN N31), .x 0, .s 4 (ChgN N31), .q 7, .p 8, .p 9] [] _ _ (by simp [AllR]) (by simp [effects]) (by simp [marked]) (by kernel_rfl) ?_
  refine plan_p rfl rfl (pr_fieldAddr 17 rfl Try.underlying48 rfl rfl sz27) ?_
  try simp only [n0, n1, n2, n3, getD_cons_zero, getD_cons_succ, set_cons_zero, set_cons_succ, zero_add, add_zero, mul_one, zero_mul, m2, m3, m4]
  refine plan_p rfl rfl (pr_fieldAddr 18 rfl Try.underlying48 rfl rfl sz27) ?_
  try simp only [n0, n1, n2, n3, getD_cons_zero, getD_cons_succ, set_cons_zero, set_cons_succ, zero_add, add_zero, mul_one, zero_mul, m2, m3, m4]
  refine plan_r rfl rfl (rr_loadN (hH.blk 0 rfl) (hNb33 0 _ _ _ rfl) rfl Try.underlying27 rfl letterC_side) ?_
  try simp only [n0, n1, n2, n3, getD_cons_zero, getD_cons_succ, set_cons_zero, set_cons_succ, zero_add, add_zero, mul_one, zero_mul, m2, m3, m4]
  refine plan_q rfl rfl (qr_call cf25 (fun w' hw => cut_calls _ _ w' ((ha.chg hH.chg).chg hw)) rfl) ?_
  try simp only [n0, n1, n2, n3, getD_cons_zero, getD_cons_succ, set_cons_zero, set_cons_succ, zero_add, add_zero, mul_one, zero_mul, m2, m3, m4]
  refine plan_r rfl rfl (rr_loadN (hH.blk 0 rfl) (hNb33 0 _ _ _ rfl) rfl Try.underlying27 rfl letterC_bytes) ?_
  try simp only [n0, n1, n2, n3, getD_cons_zero, getD_cons_succ, set_cons_zero, set_cons_succ, zero_add, add_zero, mul_one, zero_mul, m2, m3, m4]
  refine plan_buildSliceN rfl rfl hNw32 hH Try.underlying27 (by rfl) (bs0 ) ?_
  clear hH
  intro b34 w35 hNw36 hNo37 hH
  try simp only [n0, n1, n2, n3, getD_cons_zero, getD_cons_succ, set_cons_zero, set_cons_succ, zero_add, add_zero, mul_one, zero_mul, m2, m3, m4, m5, m6, m7, Value.cells, arr8_set, arr32_set, arr64_set, arrB_set] at hH ⊢
  refine plan_appendN 4 rfl rfl hNw36 (fun b hb => by cases hb; exact hNo37) hH rfl (OwnC.of_bytes rfl) (fun w' hH => ((Sl.cuth (ha.chg hH.chg) (by omega))).src) rfl rfl Try.underlying27 Try.underlying27 (.inl ⟨_, rfl⟩) sz5 bz5 ze5 rfl (by first | omega | (simp <;> omega)) (by first | omega | (simp <;> omega)) ?_
  clear hH
  intro o38 cap39 cs40 w41 hO42 hNw43 hNo44 hH
  try simp only [n0, n1, n2, n3, getD_cons_zero, getD_cons_succ, set_cons_zero, set_cons_succ, zero_add, add_zero, mul_one, zero_mul, m2, m3, m4] at hH ⊢
  try simp only [n0, n1, n2, n3, getD_cons_zero, getD_cons_succ, set_cons_zero, set_cons_succ, zero_add, add_zero, mul_one, zero_mul, m2, m3, m4, m5, m6, m7, Value.cells, arr8_set, arr32_set, arr64_set, arrB_set] at hH ⊢
  try rw [← List.map_append] at hO42
  try simp only [Nat.zero_add, List.nil_append, List.length_nil] at hO42 ⊢
  refine plan_q rfl rfl (qr_call cf25 (fun w' hw => cut_calls _ _ w' ((hb.chg hH.chg).chg hw)) rfl) ?_
  try simp only [n0, n1, n2, n3, getD_cons_zero, getD_cons_succ, set_cons_zero, set_cons_succ, zero_add, add_zero, mul_one, zero_mul, m2, m3, m4]
  refine plan_p rfl rfl pr_assign ?_
  try simp only [n0, n1, n2, n3, getD_cons_zero, getD_cons_succ, set_cons_zero, set_cons_succ, zero_add, add_zero, mul_one, zero_mul, m2, m3, m4]
  refine plan_p rfl rfl pr_assign ?_
  try simp only [n0, n1, n2, n3, getD_cons_zero, getD_cons_succ, set_cons_zero, set_cons_succ, zero_add, add_zero, mul_one, zero_mul, m2, m3, m4]
  refine plan_nilN hNw43 hH ?_
  clear hH
  intro w45 hNw46 hH
  refine Pend.done (by kernel_rfl) ?_
  intro w47 hw48
  replace hH := hH.call hw48; clear hw48
  refine hK30 _ _ ?_
  try clear hK30 K30
  refine wp_seq_k ?_
  intro K49 hK49
  refine wp_region_text [.p 0, .p 1, .p 2, .p 3, .x 4, .p 5, .p 6, .p 7, .p 8, .p 9] rfl ?_
  refine plan_p rfl rfl pr_move ?_
  try simp only [n0, n1, n2, n3, getD_cons_zero, getD_cons_succ, set_cons_zero, set_cons_succ, zero_add, add_zero, mul_one, zero_mul, m2, m3, m4]
  refine plan_p rfl rfl pr_move ?_
  try simp only [n0, n1, n2, n3, getD_cons_zero, getD_cons_succ, set_cons_zero, set_cons_succ, zero_add, add_zero, mul_one, zero_mul, m2, m3, m4]
  refine plan_p rfl rfl pr_move ?_
  try simp only [n0, n1, n2, n3, getD_cons_zero, getD_cons_succ, set_cons_zero, set_cons_succ, zero_add, add_zero, mul_one, zero_mul, m2, m3, m4]
  refine plan_p rfl rfl pr_move ?_
  try simp only [n0, n1, n2, n3, getD_cons_zero, getD_cons_succ, set_cons_zero, set_cons_succ, zero_add, add_zero, mul_one, zero_mul, m2, m3, m4]
  refine plan_callx rfl rfl hH cf26 (fun w' hH => Seal_calls _ _ _ (hP _) _ _ _ _ _ _ w' (hH.blk 2 rfl) (hH.blk 1 rfl) (Sl.cuth (OwnC.sl hH 3 rfl hO28) (by first | omega | (first | exact Nat.lt_trans (u64_mod_k _ _ _ (ofNat_toNat64 ((bl.take (min bl.length 120)).length + 16 + (al.take (min al.length 120)).length) (by omega)) (by omega)) (by omega) | (simp only [List.length_set, sealedL_len]; omega) | (simp; omega) | simp))) (nonceL_len nl) (OwnC.sl hH 4 rfl hO42) (Sl.cuth (hb.chg hH.chg) (by omega)) (by simp; omega)) rfl (fun _ _ _ h => by obtain ⟨_, _, _, _, hg, _⟩ := h; exact hg) ?_
  clear hH
  intro w50 v51 w52 hH hp53
  obtain ⟨o54, cap55, cs56, rfl, hg, hO57, hfr⟩ := hp53
  replace hH := hH.callown hg hfr
  clear hg hfr
  try simp only [n0, n1, n2, n3, getD_cons_zero, getD_cons_succ, set_cons_zero, set_cons_succ, zero_add, add_zero, mul_one, zero_mul, m2, m3, m4, m5, m6, m7, Value.cells, arr8_set, arr32_set, arr64_set, arrB_set] at hH ⊢
  try simp only [n0, n1, n2, n3, getD_cons_zero, getD_cons_succ, set_cons_zero, set_cons_succ, zero_add, add_zero, mul_one, zero_mul, m2, m3, m4]
  refine plan_p rfl rfl pr_move ?_
  try simp only [n0, n1, n2, n3, getD_cons_zero, getD_cons_succ, set_cons_zero, set_cons_succ, zero_add, add_zero, mul_one, zero_mul, m2, m3, m4]
  refine plan_p rfl rfl (pr_extract rfl rfl) ?_
  try simp only [n0, n1, n2, n3, getD_cons_zero, getD_cons_succ, set_cons_zero, set_cons_succ, zero_add, add_zero, mul_one, zero_mul, m2, m3, m4]
  refine plan_p rfl rfl (pr_extract rfl rfl) ?_
  try simp only [n0, n1, n2, n3, getD_cons_zero, getD_cons_succ, set_cons_zero, set_cons_succ, zero_add, add_zero, mul_one, zero_mul, m2, m3, m4]
  refine plan_p rfl rfl pr_assign ?_
  try simp only [n0, n1, n2, n3, getD_cons_zero, getD_cons_succ, set_cons_zero, set_cons_succ, zero_add, add_zero, mul_one, zero_mul, m2, m3, m4]
  refine plan_p rfl rfl pr_assign ?_
  try simp only [n0, n1, n2, n3, getD_cons_zero, getD_cons_succ, set_cons_zero, set_cons_succ, zero_add, add_zero, mul_one, zero_mul, m2, m3, m4]
  refine plan_nil hH ?_
  clear hH
  intro w58 hH
  refine hK49 _ _ ?_
  try clear hK49 K49
  refine wp_seq_k ?_
  intro K59 hK59
  refine wp_seq_k ?_
  intro K60 hK60
  refine wp_region_text [.p 0, .p 1] rfl ?_
  refine plan_p rfl rfl pr_move ?_
  try simp only [n0, n1, n2, n3, getD_cons_zero, getD_cons_succ, set_cons_zero, set_cons_succ, zero_add, add_zero, mul_one, zero_mul, m2, m3, m4]
  refine plan_p rfl rfl (pr_bin rfl rfl (by first | exact bin_neq_n (n := 0)  | exact bin_neq_i)) ?_
  try simp only [n0, n1, n2, n3, getD_cons_zero, getD_cons_succ, set_cons_zero, set_cons_succ, zero_add, add_zero, mul_one, zero_mul, m2, m3, m4]
  refine plan_nil hH ?_
  clear hH
  intro w61 hH
  refine hK60 _ _ ?_
  try clear hK60 K60
  refine wp_cond_false rfl ?_
  refine wp_skip ?_
  refine hK59 _ _ ?_
  try clear hK59 K59
  refine wp_seq_k ?_
  intro K62 hK62
  refine wp_region_text [.p 0, .p 1, .p 2, .p 3, .p 4, .p 5, .p 6, .p 7, .p 8, .p 9, .p 10] rfl ?_
  refine plan_p rfl rfl pr_move ?_
  try simp only [n0, n1, n2, n3, getD_cons_zero, getD_cons_succ, set_cons_zero, set_cons_succ, zero_add, add_zero, mul_one, zero_mul, m2, m3, m4]
  refine plan_p rfl rfl (pr_conv rfl (by first | exact cnv_n_u64 Try.underlying3 Try.underlying43 | exact cnv_i_u64 Try.underlying3 Try.underlying43)) ?_
  try simp only [n0, n1, n2, n3, getD_cons_zero, getD_cons_succ, set_cons_zero, set_cons_succ, zero_add, add_zero, mul_one, zero_mul, m2, m3, m4]
  refine plan_p rfl rfl pr_move ?_
  try simp only [n0, n1, n2, n3, getD_cons_zero, getD_cons_succ, set_cons_zero, set_cons_succ, zero_add, add_zero, mul_one, zero_mul, m2, m3, m4]
  refine plan_p rfl rfl (pr_len_sl rfl Try.underlying27) ?_
  try simp only [n0, n1, n2, n3, getD_cons_zero, getD_cons_succ, set_cons_zero, set_cons_succ, zero_add, add_zero, mul_one, zero_mul, m2, m3, m4]
  refine plan_p rfl rfl pr_move ?_
  try simp only [n0, n1, n2, n3, getD_cons_zero, getD_cons_succ, set_cons_zero, set_cons_succ, zero_add, add_zero, mul_one, zero_mul, m2, m3, m4]
  refine plan_p rfl rfl (pr_len_sl rfl Try.underlying27) ?_
  try simp only [n0, n1, n2, n3, getD_cons_zero, getD_cons_succ, set_cons_zero, set_cons_succ, zero_add, add_zero, mul_one, zero_mul, m2, m3, m4]
  refine plan_p rfl rfl (pr_bin rfl rfl (by first | exact bin_add_n (by first | omega | (first | exact Nat.lt_trans (u64_mod_k _ _ _ (ofNat_toNat64 ((bl.take (min bl.length 120)).length + 16 + (al.take (min al.length 120)).length) (by omega)) (by omega)) (by omega) | (simp only [List.length_set, sealedL_len]; omega) | (simp; omega) | simp)) | exact bin_add_i (by first | omega | (first | exact Nat.lt_trans (u64_mod_k _ _ _ (ofNat_toNat64 ((bl.take (min bl.length 120)).length + 16 + (al.take (min al.length 120)).length) (by omega)) (by omega)) (by omega) | (simp only [List.length_set, sealedL_len]; omega) | (simp; omega) | simp)) (by first | omega | (first | exact Nat.lt_trans (u64_mod_k _ _ _ (ofNat_toNat64 ((bl.take (min bl.length 120)).length + 16 + (al.take (min al.length 120)).length) (by omega)) (by omega)) (by omega) | (simp only [List.length_set, sealedL_len]; omega) | (simp; omega) | simp)))) ?_
  try simp only [n0, n1, n2, n3, getD_cons_zero, getD_cons_succ, set_cons_zero, set_cons_succ, zero_add, add_zero, mul_one, zero_mul, m2, m3, m4]
  refine plan_p rfl rfl (pr_conv rfl (by first | exact cnv_n_u64 Try.underlying3 Try.underlying43 | exact cnv_i_u64 Try.underlying3 Try.underlying43)) ?_
  try simp only [n0, n1, n2, n3, getD_cons_zero, getD_cons_succ, set_cons_zero, set_cons_succ, zero_add, add_zero, mul_one, zero_mul, m2, m3, m4]
  refine plan_p rfl rfl (pr_bin rfl rfl (bin_rem_u64 _ _ (by assumption))) ?_
  try simp only [n0, n1, n2, n3, getD_cons_zero, getD_cons_succ, set_cons_zero, set_cons_succ, zero_add, add_zero, mul_one, zero_mul, m2, m3, m4]
  refine plan_p rfl rfl (pr_conv rfl (cnv_u64_n _ Try.underlying43 Try.underlying3 (by first | omega | (first | exact Nat.lt_trans (u64_mod_k _ _ _ (ofNat_toNat64 ((bl.take (min bl.length 120)).length + 16 + (al.take (min al.length 120)).length) (by omega)) (by omega)) (by omega) | (simp only [List.length_set, sealedL_len]; omega) | (simp; omega) | simp)))) ?_
  try simp only [n0, n1, n2, n3, getD_cons_zero, getD_cons_succ, set_cons_zero, set_cons_succ, zero_add, add_zero, mul_one, zero_mul, m2, m3, m4]
  refine plan_p rfl rfl pr_assign ?_
  try simp only [n0, n1, n2, n3, getD_cons_zero, getD_cons_succ, set_cons_zero, set_cons_succ, zero_add, add_zero, mul_one, zero_mul, m2, m3, m4]
  refine plan_nil hH ?_
  clear hH
  intro w63 hH
  try rw [hk]
  try simp only [hk] at *
  refine hK62 _ _ ?_
  try clear hK62 K62
  refine wp_seq_k ?_
  intro K64 hK64
  refine wp_seq_k ?_
  intro K65 hK65
  refine wp_region_text [.p 0, .p 1, .p 2, .p 3] rfl ?_
  refine plan_p rfl rfl pr_move ?_
  try simp only [n0, n1, n2, n3, getD_cons_zero, getD_cons_succ, set_cons_zero, set_cons_succ, zero_add, add_zero, mul_one, zero_mul, m2, m3, m4]
  refine plan_p rfl rfl pr_move ?_
  try simp only [n0, n1, n2, n3, getD_cons_zero, getD_cons_succ, set_cons_zero, set_cons_succ, zero_add, add_zero, mul_one, zero_mul, m2, m3, m4]
  refine plan_p rfl rfl (pr_len_sl rfl Try.underlying27) ?_
  try simp only [n0, n1, n2, n3, getD_cons_zero, getD_cons_succ, set_cons_zero, set_cons_succ, zero_add, add_zero, mul_one, zero_mul, m2, m3, m4]
  refine plan_p rfl rfl (pr_bin rfl rfl (by first | exact bin_lss_n  | exact bin_lss_i)) ?_
  try simp only [n0, n1, n2, n3, getD_cons_zero, getD_cons_succ, set_cons_zero, set_cons_succ, zero_add, add_zero, mul_one, zero_mul, m2, m3, m4]
  refine plan_nil hH ?_
  clear hH
  intro w66 hH
  refine hK65 _ _ ?_
  try clear hK65 K65
  refine wp_cond_split rfl (fun hc67 => ?_) (fun hc67 => ?_)
  ·
    try simp only [decide_eq_true_eq, decide_eq_false_iff_not, beq_iff_eq, bne_iff_ne, beq_eq_false_iff_ne, ne_eq, Bool.not_eq_true', Bool.not_eq_false', bne_eq_false_iff_eq, Nat.not_lt, Nat.not_le, gt_iff_lt, ge_iff_le] at hc67
    have hkc : k < (sealedL (kexp fun i => ((List.range 16).map fun i => f i).getD i 0) (hP (kexp fun i => ((List.range 16).map fun i => f i).getD i 0)) (nonceL nl) (al.take (min al.length 120)) (bl.take (min bl.length 120))).length := by rw [sealedL_len]; exact hc67
    have he2 : sealL (kexp fun i => ((List.range 16).map fun i => f i).getD i 0) (hP (kexp fun i => ((List.range 16).map fun i => f i).getD i 0)) (nonceL nl) (al.take (min al.length 120)) (((sealedL (kexp fun i => ((List.range 16).map fun i => f i).getD i 0) (hP (kexp fun i => ((List.range 16).map fun i => f i).getD i 0)) (nonceL nl) (al.take (min al.length 120)) (bl.take (min bl.length 120))).set k ((sealedL (kexp fun i => ((List.range 16).map fun i => f i).getD i 0) (hP (kexp fun i => ((List.range 16).map fun i => f i).getD i 0)) (nonceL nl) (al.take (min al.length 120)) (bl.take (min bl.length 120))).getD k 0 ^^^ x)).take (((sealedL (kexp fun i => ((List.range 16).map fun i => f i).getD i 0) (hP (kexp fun i => ((List.range 16).map fun i => f i).getD i 0)) (nonceL nl) (al.take (min al.length 120)) (bl.take (min bl.length 120))).set k ((sealedL (kexp fun i => ((List.range 16).map fun i => f i).getD i 0) (hP (kexp fun i => ((List.range 16).map fun i => f i).getD i 0)) (nonceL nl) (al.take (min al.length 120)) (bl.take (min bl.length 120))).getD k 0 ^^^ x)).length - 16)) = ((sealedL (kexp fun i => ((List.range 16).map fun i => f i).getD i 0) (hP (kexp fun i => ((List.range 16).map fun i => f i).getD i 0)) (nonceL nl) (al.take (min al.length 120)) (bl.take (min bl.length 120))).set k ((sealedL (kexp fun i => ((List.range 16).map fun i => f i).getD i 0) (hP (kexp fun i => ((List.range 16).map fun i => f i).getD i 0)) (nonceL nl) (al.take (min al.length 120)) (bl.take (min bl.length 120))).getD k 0 ^^^ x)).drop (((sealedL (kexp fun i => ((List.range 16).map fun i => f i).getD i 0) (hP (kexp fun i => ((List.range 16).map fun i => f i).getD i 0)) (nonceL nl) (al.take (min al.length 120)) (bl.take (min bl.length 120))).set k ((sealedL (kexp fun i => ((List.range 16).map fun i => f i).getD i 0) (hP (kexp fun i => ((List.range 16).map fun i => f i).getD i 0)) (nonceL nl) (al.take (min al.length 120)) (bl.take (min bl.length 120))).getD k 0 ^^^ x)).length - 16) := by
      have := he
      unfold toldEq spoC spoS at this
      simp only [if_pos hkc] at this
      exact this
    refine wp_region_text [.p 0, .p 1, .p 2, .p 3, .p 4, .q 5, .p 6, .p 7, .p 8, .e 9] rfl ?_
    refine plan_p rfl rfl pr_move ?_
    try simp only [n0, n1, n2, n3, getD_cons_zero, getD_cons_succ, set_cons_zero, set_cons_succ, zero_add, add_zero, mul_one, zero_mul, m2, m3, m4]
    refine plan_p rfl rfl pr_move ?_
    try simp only [n0, n1, n2, n3, getD_cons_zero, getD_cons_succ, set_cons_zero, set_cons_succ, zero_add, add_zero, mul_one, zero_mul, m2, m3, m4]
    refine plan_p rfl rfl pr_move ?_
    try simp only [n0, n1, n2, n3, getD_cons_zero, getD_cons_succ, set_cons_zero, set_cons_succ, zero_add, add_zero, mul_one, zero_mul, m2, m3, m4]
    refine plan_p rfl rfl pr_move ?_
    try simp only [n0, n1, n2, n3, getD_cons_zero, getD_cons_succ, set_cons_zero, set_cons_succ, zero_add, add_zero, mul_one, zero_mul, m2, m3, m4]
    refine plan_p rfl rfl (pr_idx_Sl (OwnC.sl hH 5 rfl hO57) rfl rfl Try.underlying27 sz5 (by first | omega | (first | exact Nat.lt_trans (u64_mod_k _ _ _ (ofNat_toNat64 ((bl.take (min bl.length 120)).length + 16 + (al.take (min al.length 120)).length) (by omega)) (by omega)) (by omega) | (simp only [List.length_set, sealedL_len]; omega) | (simp; omega) | simp))) ?_
    try simp only [n0, n1, n2, n3, getD_cons_zero, getD_cons_succ, set_cons_zero, set_cons_succ, zero_add, add_zero, mul_one, zero_mul, m2, m3, m4]
    refine plan_q rfl rfl (qr_load1 rfl Try.underlying5 rfl (Sl.cell (OwnC.sl hH 5 rfl hO57) (by first | omega | (first | exact Nat.lt_trans (u64_mod_k _ _ _ (ofNat_toNat64 ((bl.take (min bl.length 120)).length + 16 + (al.take (min al.length 120)).length) (by omega)) (by omega)) (by omega) | (simp only [List.length_set, sealedL_len]; omega) | (simp; omega) | simp)))) ?_
    try simp only [n0, n1, n2, n3, getD_cons_zero, getD_cons_succ, set_cons_zero, set_cons_succ, zero_add, add_zero, mul_one, zero_mul, m2, m3, m4]
    refine plan_p rfl rfl pr_move ?_
    try simp only [n0, n1, n2, n3, getD_cons_zero, getD_cons_succ, set_cons_zero, set_cons_succ, zero_add, add_zero, mul_one, zero_mul, m2, m3, m4]
    refine plan_p rfl rfl (pr_bin rfl rfl (bin_xor_u8 _ _)) ?_
    try simp only [n0, n1, n2, n3, getD_cons_zero, getD_cons_succ, set_cons_zero, set_cons_succ, zero_add, add_zero, mul_one, zero_mul, m2, m3, m4]
    refine plan_p rfl rfl (pr_idx_Sl (OwnC.sl hH 5 rfl hO57) rfl rfl Try.underlying27 sz5 (by first | omega | (first | exact Nat.lt_trans (u64_mod_k _ _ _ (ofNat_toNat64 ((bl.take (min bl.length 120)).length + 16 + (al.take (min al.length 120)).length) (by omega)) (by omega)) (by omega) | (simp only [List.length_set, sealedL_len]; omega) | (simp; omega) | simp))) ?_
    try simp only [n0, n1, n2, n3, getD_cons_zero, getD_cons_succ, set_cons_zero, set_cons_succ, zero_add, add_zero, mul_one, zero_mul, m2, m3, m4]
    refine plan_storeO 5 rfl rfl hH rfl rfl hO57 rfl sz5 (by first | omega | (first | exact Nat.lt_trans (u64_mod_k _ _ _ (ofNat_toNat64 ((bl.take (min bl.length 120)).length + 16 + (al.take (min al.length 120)).length) (by omega)) (by omega)) (by omega) | (simp only [List.length_set, sealedL_len]; omega) | (simp; omega) | simp)) ?_
    clear hH
    intro cs69 w68 hO70 hH
    try simp only [n0, n1, n2, n3, getD_cons_zero, getD_cons_succ, set_cons_zero, set_cons_succ, zero_add, add_zero, mul_one, zero_mul, m2, m3, m4, m5, m6, m7, Value.cells, arr8_set, arr32_set, arr64_set, arrB_set] at hH ⊢
    refine plan_nil hH ?_
    clear hH
    intro w71 hH
    refine hK64 _ _ ?_
    try clear hK64 K64
    refine wp_seq_k ?_
    intro K72 hK72
    refine wp_region_text [.p 0, .p 1, .p 2, .p 3, .x 4, .p 5, .p 6, .p 7, .p 8, .p 9] rfl ?_
    refine plan_p rfl rfl pr_move ?_
    try simp only [n0, n1, n2, n3, getD_cons_zero, getD_cons_succ, set_cons_zero, set_cons_succ, zero_add, add_zero, mul_one, zero_mul, m2, m3, m4]
    refine plan_p rfl rfl pr_move ?_
    try simp only [n0, n1, n2, n3, getD_cons_zero, getD_cons_succ, set_cons_zero, set_cons_succ, zero_add, add_zero, mul_one, zero_mul, m2, m3, m4]
    refine plan_p rfl rfl pr_move ?_
    try simp only [n0, n1, n2, n3, getD_cons_zero, getD_cons_succ, set_cons_zero, set_cons_succ, zero_add, add_zero, mul_one, zero_mul, m2, m3, m4]
    refine plan_p rfl rfl pr_move ?_
    try simp only [n0, n1, n2, n3, getD_cons_zero, getD_cons_succ, set_cons_zero, set_cons_succ, zero_add, add_zero, mul_one, zero_mul, m2, m3, m4]
    refine plan_callx rfl rfl hH cf32 (fun w' hH => Open_calls _ _ _ (hP _) _ _ _ _ _ _ w' (hH.blk 2 rfl) (hH.blk 1 rfl) (Sl.cuth (OwnC.sl hH 3 rfl hO28) (by first | omega | (first | exact Nat.lt_trans (u64_mod_k _ _ _ (ofNat_toNat64 ((bl.take (min bl.length 120)).length + 16 + (al.take (min al.length 120)).length) (by omega)) (by omega)) (by omega) | (simp only [List.length_set, sealedL_len]; omega) | (simp; omega) | simp))) (nonceL_len nl) (OwnC.sl hH 4 rfl hO42) (OwnC.sl hH 5 rfl hO70) (by simp only [List.length_set, sealedL_len]; omega) (by simp only [List.length_set, sealedL_len]; omega) he2) rfl (fun _ _ _ h => by obtain ⟨_, _, _, _, hg, _⟩ := h; exact hg) ?_
    clear hH
    intro w73 v74 w75 hH hp76
    obtain ⟨o77, cap78, cs79, rfl, hg, hO80, hfr⟩ := hp76
    replace hH := hH.callown hg hfr
    clear hg hfr
    try simp only [n0, n1, n2, n3, getD_cons_zero, getD_cons_succ, set_cons_zero, set_cons_succ, zero_add, add_zero, mul_one, zero_mul, m2, m3, m4, m5, m6, m7, Value.cells, arr8_set, arr32_set, arr64_set, arrB_set] at hH ⊢
    try simp only [n0, n1, n2, n3, getD_cons_zero, getD_cons_succ, set_cons_zero, set_cons_succ, zero_add, add_zero, mul_one, zero_mul, m2, m3, m4]
    refine plan_p rfl rfl pr_move ?_
    try simp only [n0, n1, n2, n3, getD_cons_zero, getD_cons_succ, set_cons_zero, set_cons_succ, zero_add, add_zero, mul_one, zero_mul, m2, m3, m4]
    refine plan_p rfl rfl (pr_extract rfl rfl) ?_
    try simp only [n0, n1, n2, n3, getD_cons_zero, getD_cons_succ, set_cons_zero, set_cons_succ, zero_add, add_zero, mul_one, zero_mul, m2, m3, m4]
    refine plan_p rfl rfl (pr_extract rfl rfl) ?_
    try simp only [n0, n1, n2, n3, getD_cons_zero, getD_cons_succ, set_cons_zero, set_cons_succ, zero_add, add_zero, mul_one, zero_mul, m2, m3, m4]
    refine plan_p rfl rfl pr_assign ?_
    try simp only [n0, n1, n2, n3, getD_cons_zero, getD_cons_succ, set_cons_zero, set_cons_succ, zero_add, add_zero, mul_one, zero_mul, m2, m3, m4]
    refine plan_p rfl rfl pr_assign ?_
    try simp only [n0, n1, n2, n3, getD_cons_zero, getD_cons_succ, set_cons_zero, set_cons_succ, zero_add, add_zero, mul_one, zero_mul, m2, m3, m4]
    refine plan_nil hH ?_
    clear hH
    intro w81 hH
    refine hK72 _ _ ?_
    try clear hK72 K72
    refine wp_seq_k ?_
    intro K82 hK82
    refine wp_seq_k ?_
    intro K83 hK83
    refine wp_region_text [.p 0, .p 1] rfl ?_
    refine plan_p rfl rfl pr_move ?_
    try simp only [n0, n1, n2, n3, getD_cons_zero, getD_cons_succ, set_cons_zero, set_cons_succ, zero_add, add_zero, mul_one, zero_mul, m2, m3, m4]
    refine plan_p rfl rfl (pr_bin rfl rfl (bin_eql_u8 _ 0)) ?_
    try simp only [n0, n1, n2, n3, getD_cons_zero, getD_cons_succ, set_cons_zero, set_cons_succ, zero_add, add_zero, mul_one, zero_mul, m2, m3, m4]
    refine plan_nil hH ?_
    clear hH
    intro w84 hH
    refine hK83 _ _ ?_
    try clear hK83 K83
    refine wp_cond_true (by show BV _ = _; rw [hx]; rfl) ?_
    refine wp_seq_k ?_
    intro K85 hK85
    refine wp_region_text [.p 0, .p 1, .p 2, .p 3, .q 4, .p 5, .q 6, .p 7, .p 8, .p 9] rfl ?_
    refine plan_p rfl rfl pr_move ?_
    try simp only [n0, n1, n2, n3, getD_cons_zero, getD_cons_succ, set_cons_zero, set_cons_succ, zero_add, add_zero, mul_one, zero_mul, m2, m3, m4]
    refine plan_p rfl rfl (pr_bin rfl rfl (by first | exact bin_eql_n (n := 0)  | exact bin_eql_i)) ?_
    try simp only [n0, n1, n2, n3, getD_cons_zero, getD_cons_succ, set_cons_zero, set_cons_succ, zero_add, add_zero, mul_one, zero_mul, m2, m3, m4]
    refine plan_p (v := BV true) rfl rfl (pr_move_v rfl) ?_
    try simp only [n0, n1, n2, n3, getD_cons_zero, getD_cons_succ, set_cons_zero, set_cons_succ, zero_add, add_zero, mul_one, zero_mul, m2, m3, m4]
    refine plan_p rfl rfl pr_move ?_
    try simp only [n0, n1, n2, n3, getD_cons_zero, getD_cons_succ, set_cons_zero, set_cons_succ, zero_add, add_zero, mul_one, zero_mul, m2, m3, m4]
    refine plan_q rfl rfl (qr_b2s (OwnC.sl hH 6 rfl hO80) rfl Try.underlying27 Try.underlying5 Try.underlying9) ?_
    try simp only [n0, n1, n2, n3, getD_cons_zero, getD_cons_succ, set_cons_zero, set_cons_succ, zero_add, add_zero, mul_one, zero_mul, m2, m3, m4]
    refine plan_p rfl rfl pr_move ?_
    try simp only [n0, n1, n2, n3, getD_cons_zero, getD_cons_succ, set_cons_zero, set_cons_succ, zero_add, add_zero, mul_one, zero_mul, m2, m3, m4]
    refine plan_q rfl rfl (qr_b2s (Sl.cuth (hb.chg hH.chg) (by omega)) rfl Try.underlying27 Try.underlying5 Try.underlying9) ?_
    try simp only [n0, n1, n2, n3, getD_cons_zero, getD_cons_succ, set_cons_zero, set_cons_succ, zero_add, add_zero, mul_one, zero_mul, m2, m3, m4]
    refine plan_p rfl rfl (pr_bin rfl rfl bin_eql_s) ?_
    try simp only [n0, n1, n2, n3, getD_cons_zero, getD_cons_succ, set_cons_zero, set_cons_succ, zero_add, add_zero, mul_one, zero_mul, m2, m3, m4]
    refine plan_p rfl rfl (pr_pick_t rfl) ?_
    try simp only [n0, n1, n2, n3, getD_cons_zero, getD_cons_succ, set_cons_zero, set_cons_succ, zero_add, add_zero, mul_one, zero_mul, m2, m3, m4]
    refine plan_p rfl rfl pr_assign ?_
    try simp only [n0, n1, n2, n3, getD_cons_zero, getD_cons_succ, set_cons_zero, set_cons_succ, zero_add, add_zero, mul_one, zero_mul, m2, m3, m4]
    refine plan_nil hH ?_
    clear hH
    intro w86 hH
    refine hK85 _ _ ?_
    try clear hK85 K85
    refine wp_ret ?_
    try simp only [Exit.then, Exit.inBlock, ↓reduceIte, Nat.reduceEqDiff]
    refine BP.ret1 rfl rfl ?_
    refine ⟨congrArg BV (beq_iff_eq.2 (?_ : hidL _ _ _ = _)), hH.chg⟩
    subst hx
    rw [spoC_zero]
    exact (congrArg (hidL _ _) (sealed_take _ _ _ _ _)).trans (hid_twice _ _ _)
  ·
    try simp only [decide_eq_true_eq, decide_eq_false_iff_not, beq_iff_eq, bne_iff_ne, beq_eq_false_iff_ne, ne_eq, Bool.not_eq_true', Bool.not_eq_false', bne_eq_false_iff_eq, Nat.not_lt, Nat.not_le, gt_iff_lt, ge_iff_le] at hc67
    have hkc : ¬ k < (sealedL (kexp fun i => ((List.range 16).map fun i => f i).getD i 0) (hP (kexp fun i => ((List.range 16).map fun i => f i).getD i 0)) (nonceL nl) (al.take (min al.length 120)) (bl.take (min bl.length 120))).length := by rw [sealedL_len]; omega
    have he2 : sealL (kexp fun i => ((List.range 16).map fun i => f i).getD i 0) (hP (kexp fun i => ((List.range 16).map fun i => f i).getD i 0)) (nonceL nl) ((al.take (min al.length 120)).set (k - ((bl.take (min bl.length 120)).length + 16)) ((al.take (min al.length 120)).getD (k - ((bl.take (min bl.length 120)).length + 16)) 0 ^^^ x)) ((sealedL (kexp fun i => ((List.range 16).map fun i => f i).getD i 0) (hP (kexp fun i => ((List.range 16).map fun i => f i).getD i 0)) (nonceL nl) (al.take (min al.length 120)) (bl.take (min bl.length 120))).take ((sealedL (kexp fun i => ((List.range 16).map fun i => f i).getD i 0) (hP (kexp fun i => ((List.range 16).map fun i => f i).getD i 0)) (nonceL nl) (al.take (min al.length 120)) (bl.take (min bl.length 120))).length - 16)) = (sealedL (kexp fun i => ((List.range 16).map fun i => f i).getD i 0) (hP (kexp fun i => ((List.range 16).map fun i => f i).getD i 0)) (nonceL nl) (al.take (min al.length 120)) (bl.take (min bl.length 120))).drop ((sealedL (kexp fun i => ((List.range 16).map fun i => f i).getD i 0) (hP (kexp fun i => ((List.range 16).map fun i => f i).getD i 0)) (nonceL nl) (al.take (min al.length 120)) (bl.take (min bl.length 120))).length - 16) := by
      have := he
      unfold toldEq spoC spoS at this
      simp only [if_neg hkc] at this
      rw [show k - (sealedL (kexp fun i => ((List.range 16).map fun i => f i).getD i 0) (hP (kexp fun i => ((List.range 16).map fun i => f i).getD i 0)) (nonceL nl) (al.take (min al.length 120)) (bl.take (min bl.length 120))).length = k - ((bl.take (min bl.length 120)).length + 16) by rw [sealedL_len]] at this
      exact this
    refine wp_region_text [.p 0, .p 1, .p 2, .p 3, .p 4, .p 5, .p 6, .p 7, .p 8, .p 9, .p 10, .q 11, .p 12, .p 13, .p 14, .e 15] rfl ?_
    refine plan_p rfl rfl pr_move ?_
    try simp only [n0, n1, n2, n3, getD_cons_zero, getD_cons_succ, set_cons_zero, set_cons_succ, zero_add, add_zero, mul_one, zero_mul, m2, m3, m4]
    refine plan_p rfl rfl pr_move ?_
    try simp only [n0, n1, n2, n3, getD_cons_zero, getD_cons_succ, set_cons_zero, set_cons_succ, zero_add, add_zero, mul_one, zero_mul, m2, m3, m4]
    refine plan_p rfl rfl pr_move ?_
    try simp only [n0, n1, n2, n3, getD_cons_zero, getD_cons_succ, set_cons_zero, set_cons_succ, zero_add, add_zero, mul_one, zero_mul, m2, m3, m4]
    refine plan_p rfl rfl (pr_len_sl rfl Try.underlying27) ?_
    try simp only [n0, n1, n2, n3, getD_cons_zero, getD_cons_succ, set_cons_zero, set_cons_succ, zero_add, add_zero, mul_one, zero_mul, m2, m3, m4]
    refine plan_p rfl rfl (pr_bin rfl rfl (by first | exact bin_sub_n (by first | omega | (first | exact Nat.lt_trans (u64_mod_k _ _ _ (ofNat_toNat64 ((bl.take (min bl.length 120)).length + 16 + (al.take (min al.length 120)).length) (by omega)) (by omega)) (by omega) | (simp only [List.length_set, sealedL_len]; omega) | (simp; omega) | simp)) (by first | omega | (first | exact Nat.lt_trans (u64_mod_k _ _ _ (ofNat_toNat64 ((bl.take (min bl.length 120)).length + 16 + (al.take (min al.length 120)).length) (by omega)) (by omega)) (by omega) | (simp only [List.length_set, sealedL_len]; omega) | (simp; omega) | simp)) | exact bin_sub_i (by first | omega | (first | exact Nat.lt_trans (u64_mod_k _ _ _ (ofNat_toNat64 ((bl.take (min bl.length 120)).length + 16 + (al.take (min al.length 120)).length) (by omega)) (by omega)) (by omega) | (simp only [List.length_set, sealedL_len]; omega) | (simp; omega) | simp)) (by first | omega | (first | exact Nat.lt_trans (u64_mod_k _ _ _ (ofNat_toNat64 ((bl.take (min bl.length 120)).length + 16 + (al.take (min al.length 120)).length) (by omega)) (by omega)) (by omega) | (simp only [List.length_set, sealedL_len]; omega) | (simp; omega) | simp)))) ?_
    try simp only [n0, n1, n2, n3, getD_cons_zero, getD_cons_succ, set_cons_zero, set_cons_succ, zero_add, add_zero, mul_one, zero_mul, m2, m3, m4]
    refine plan_p rfl rfl pr_move ?_
    try simp only [n0, n1, n2, n3, getD_cons_zero, getD_cons_succ, set_cons_zero, set_cons_succ, zero_add, add_zero, mul_one, zero_mul, m2, m3, m4]
    refine plan_p rfl rfl pr_move ?_
    try simp only [n0, n1, n2, n3, getD_cons_zero, getD_cons_succ, set_cons_zero, set_cons_succ, zero_add, add_zero, mul_one, zero_mul, m2, m3, m4]
    refine plan_p rfl rfl pr_move ?_
    try simp only [n0, n1, n2, n3, getD_cons_zero, getD_cons_succ, set_cons_zero, set_cons_succ, zero_add, add_zero, mul_one, zero_mul, m2, m3, m4]
    refine plan_p rfl rfl (pr_len_sl rfl Try.underlying27) ?_
    try simp only [n0, n1, n2, n3, getD_cons_zero, getD_cons_succ, set_cons_zero, set_cons_succ, zero_add, add_zero, mul_one, zero_mul, m2, m3, m4]
    refine plan_p rfl rfl (pr_bin rfl rfl (by first | exact bin_sub_n (by first | omega | (first | exact Nat.lt_trans (u64_mod_k _ _ _ (ofNat_toNat64 ((bl.take (min bl.length 120)).length + 16 + (al.take (min al.length 120)).length) (by omega)) (by omega)) (by omega) | (simp only [List.length_set, sealedL_len]; omega) | (simp; omega) | simp)) (by first | omega | (first | exact Nat.lt_trans (u64_mod_k _ _ _ (ofNat_toNat64 ((bl.take (min bl.length 120)).length + 16 + (al.take (min al.length 120)).length) (by omega)) (by omega)) (by omega) | (simp only [List.length_set, sealedL_len]; omega) | (simp; omega) | simp)) | exact bin_sub_i (by first | omega | (first | exact Nat.lt_trans (u64_mod_k _ _ _ (ofNat_toNat64 ((bl.take (min bl.length 120)).length + 16 + (al.take (min al.length 120)).length) (by omega)) (by omega)) (by omega) | (simp only [List.length_set, sealedL_len]; omega) | (simp; omega) | simp)) (by first | omega | (first | exact Nat.lt_trans (u64_mod_k _ _ _ (ofNat_toNat64 ((bl.take (min bl.length 120)).length + 16 + (al.take (min al.length 120)).length) (by omega)) (by omega)) (by omega) | (simp only [List.length_set, sealedL_len]; omega) | (simp; omega) | simp)))) ?_
    try simp only [n0, n1, n2, n3, getD_cons_zero, getD_cons_succ, set_cons_zero, set_cons_succ, zero_add, add_zero, mul_one, zero_mul, m2, m3, m4]
    refine plan_p rfl rfl (pr_idx_Sl (OwnC.sl hH 4 rfl hO42) rfl rfl Try.underlying27 sz5 (by first | omega | (first | exact Nat.lt_trans (u64_mod_k _ _ _ (ofNat_toNat64 ((bl.take (min bl.length 120)).length + 16 + (al.take (min al.length 120)).length) (by omega)) (by omega)) (by omega) | (simp only [List.length_set, sealedL_len]; omega) | (simp; omega) | simp))) ?_
    try simp only [n0, n1, n2, n3, getD_cons_zero, getD_cons_succ, set_cons_zero, set_cons_succ, zero_add, add_zero, mul_one, zero_mul, m2, m3, m4]
    refine plan_q rfl rfl (qr_load1 rfl Try.underlying5 rfl (Sl.cell (OwnC.sl hH 4 rfl hO42) (by first | omega | (first | exact Nat.lt_trans (u64_mod_k _ _ _ (ofNat_toNat64 ((bl.take (min bl.length 120)).length + 16 + (al.take (min al.length 120)).length) (by omega)) (by omega)) (by omega) | (simp only [List.length_set, sealedL_len]; omega) | (simp; omega) | simp)))) ?_
    try simp only [n0, n1, n2, n3, getD_cons_zero, getD_cons_succ, set_cons_zero, set_cons_succ, zero_add, add_zero, mul_one, zero_mul, m2, m3, m4]
    refine plan_p rfl rfl pr_move ?_
    try simp only [n0, n1, n2, n3, getD_cons_zero, getD_cons_succ, set_cons_zero, set_cons_succ, zero_add, add_zero, mul_one, zero_mul, m2, m3, m4]
    refine plan_p rfl rfl (pr_bin rfl rfl (bin_xor_u8 _ _)) ?_
    try simp only [n0, n1, n2, n3, getD_cons_zero, getD_cons_succ, set_cons_zero, set_cons_succ, zero_add, add_zero, mul_one, zero_mul, m2, m3, m4]
    refine plan_p rfl rfl (pr_idx_Sl (OwnC.sl hH 4 rfl hO42) rfl rfl Try.underlying27 sz5 (by first | omega | (first | exact Nat.lt_trans (u64_mod_k _ _ _ (ofNat_toNat64 ((bl.take (min bl.length 120)).length + 16 + (al.take (min al.length 120)).length) (by omega)) (by omega)) (by omega) | (simp only [List.length_set, sealedL_len]; omega) | (simp; omega) | simp))) ?_
    try simp only [n0, n1, n2, n3, getD_cons_zero, getD_cons_succ, set_cons_zero, set_cons_succ, zero_add, add_zero, mul_one, zero_mul, m2, m3, m4]
    refine plan_storeO 4 rfl rfl hH rfl rfl hO42 rfl sz5 (by first | omega | (first | exact Nat.lt_trans (u64_mod_k _ _ _ (ofNat_toNat64 ((bl.take (min bl.length 120)).length + 16 + (al.take (min al.length 120)).length) (by omega)) (by omega)) (by omega) | (simp only [List.length_set, sealedL_len]; omega) | (simp; omega) | simp)) ?_
    clear hH
    intro cs88 w87 hO89 hH
    try simp only [n0, n1, n2, n3, getD_cons_zero, getD_cons_succ, set_cons_zero, set_cons_succ, zero_add, add_zero, mul_one, zero_mul, m2, m3, m4, m5, m6, m7, Value.cells, arr8_set, arr32_set, arr64_set, arrB_set] at hH ⊢
    refine plan_nil hH ?_
    clear hH
    intro w90 hH
    refine hK64 _ _ ?_
    try clear hK64 K64
    refine wp_seq_k ?_
    intro K91 hK91
    refine wp_region_text [.p 0, .p 1, .p 2, .p 3, .x 4, .p 5, .p 6, .p 7, .p 8, .p 9] rfl ?_
    refine plan_p rfl rfl pr_move ?_
    try simp only [n0, n1, n2, n3, getD_cons_zero, getD_cons_succ, set_cons_zero, set_cons_succ, zero_add, add_zero, mul_one, zero_mul, m2, m3, m4]
    refine plan_p rfl rfl pr_move ?_
    try simp only [n0, n1, n2, n3, getD_cons_zero, getD_cons_succ, set_cons_zero, set_cons_succ, zero_add, add_zero, mul_one, zero_mul, m2, m3, m4]
    refine plan_p rfl rfl pr_move ?_
    try simp only [n0, n1, n2, n3, getD_cons_zero, getD_cons_succ, set_cons_zero, set_cons_succ, zero_add, add_zero, mul_one, zero_mul, m2, m3, m4]
    refine plan_p rfl rfl pr_move ?_
    try simp only [n0, n1, n2, n3, getD_cons_zero, getD_cons_succ, set_cons_zero, set_cons_succ, zero_add, add_zero, mul_one, zero_mul, m2, m3, m4]
    refine plan_callx rfl rfl hH cf32 (fun w' hH => Open_calls _ _ _ (hP _) _ _ _ _ _ _ w' (hH.blk 2 rfl) (hH.blk 1 rfl) (Sl.cuth (OwnC.sl hH 3 rfl hO28) (by first | omega | (first | exact Nat.lt_trans (u64_mod_k _ _ _ (ofNat_toNat64 ((bl.take (min bl.length 120)).length + 16 + (al.take (min al.length 120)).length) (by omega)) (by omega)) (by omega) | (simp only [List.length_set, sealedL_len]; omega) | (simp; omega) | simp))) (nonceL_len nl) (OwnC.sl hH 4 rfl hO89) (OwnC.sl hH 5 rfl hO57) (by simp only [List.length_set, sealedL_len]; omega) (by simp only [List.length_set, sealedL_len]; omega) he2) rfl (fun _ _ _ h => by obtain ⟨_, _, _, _, hg, _⟩ := h; exact hg) ?_
    clear hH
    intro w92 v93 w94 hH hp95
    obtain ⟨o96, cap97, cs98, rfl, hg, hO99, hfr⟩ := hp95
    replace hH := hH.callown hg hfr
    clear hg hfr
    try simp only [n0, n1, n2, n3, getD_cons_zero, getD_cons_succ, set_cons_zero, set_cons_succ, zero_add, add_zero, mul_one, zero_mul, m2, m3, m4, m5, m6, m7, Value.cells, arr8_set, arr32_set, arr64_set, arrB_set] at hH ⊢
    try simp only [n0, n1, n2, n3, getD_cons_zero, getD_cons_succ, set_cons_zero, set_cons_succ, zero_add, add_zero, mul_one, zero_mul, m2, m3, m4]
    refine plan_p rfl rfl pr_move ?_
    try simp only [n0, n1, n2, n3, getD_cons_zero, getD_cons_succ, set_cons_zero, set_cons_succ, zero_add, add_zero, mul_one, zero_mul, m2, m3, m4]
    refine plan_p rfl rfl (pr_extract rfl rfl) ?_
    try simp only [n0, n1, n2, n3, getD_cons_zero, getD_cons_succ, set_cons_zero, set_cons_succ, zero_add, add_zero, mul_one, zero_mul, m2, m3, m4]
    refine plan_p rfl rfl (pr_extract rfl rfl) ?_
    try simp only [n0, n1, n2, n3, getD_cons_zero, getD_cons_succ, set_cons_zero, set_cons_succ, zero_add, add_zero, mul_one, zero_mul, m2, m3, m4]
    refine plan_p rfl rfl pr_assign ?_
    try simp only [n0, n1, n2, n3, getD_cons_zero, getD_cons_succ, set_cons_zero, set_cons_succ, zero_add, add_zero, mul_one, zero_mul, m2, m3, m4]
    refine plan_p rfl rfl pr_assign ?_
    try simp only [n0, n1, n2, n3, getD_cons_zero, getD_cons_succ, set_cons_zero, set_cons_succ, zero_add, add_zero, mul_one, zero_mul, m2, m3, m4]
    refine plan_nil hH ?_
    clear hH
    intro w100 hH
    refine hK91 _ _ ?_
    try clear hK91 K91
    refine wp_seq_k ?_
    intro K101 hK101
    refine wp_seq_k ?_
    intro K102 hK102
    refine wp_region_text [.p 0, .p 1] rfl ?_
    refine plan_p rfl rfl pr_move ?_
    try simp only [n0, n1, n2, n3, getD_cons_zero, getD_cons_succ, set_cons_zero, set_cons_succ, zero_add, add_zero, mul_one, zero_mul, m2, m3, m4]
    refine plan_p rfl rfl (pr_bin rfl rfl (bin_eql_u8 _ 0)) ?_
    try simp only [n0, n1, n2, n3, getD_cons_zero, getD_cons_succ, set_cons_zero, set_cons_succ, zero_add, add_zero, mul_one, zero_mul, m2, m3, m4]
    refine plan_nil hH ?_
    clear hH
    intro w103 hH
    refine hK102 _ _ ?_
    try clear hK102 K102
    refine wp_cond_true (by show BV _ = _; rw [hx]; rfl) ?_
    refine wp_seq_k ?_
    intro K104 hK104
    refine wp_region_text [.p 0, .p 1, .p 2, .p 3, .q 4, .p 5, .q 6, .p 7, .p 8, .p 9] rfl ?_
    refine plan_p rfl rfl pr_move ?_
    try simp only [n0, n1, n2, n3, getD_cons_zero, getD_cons_succ, set_cons_zero, set_cons_succ, zero_add, add_zero, mul_one, zero_mul, m2, m3, m4]
    refine plan_p rfl rfl (pr_bin rfl rfl (by first | exact bin_eql_n (n := 0)  | exact bin_eql_i)) ?_
    try simp only [n0, n1, n2, n3, getD_cons_zero, getD_cons_succ, set_cons_zero, set_cons_succ, zero_add, add_zero, mul_one, zero_mul, m2, m3, m4]
    refine plan_p (v := BV true) rfl rfl (pr_move_v rfl) ?_
    try simp only [n0, n1, n2, n3, getD_cons_zero, getD_cons_succ, set_cons_zero, set_cons_succ, zero_add, add_zero, mul_one, zero_mul, m2, m3, m4]
    refine plan_p rfl rfl pr_move ?_
    try simp only [n0, n1, n2, n3, getD_cons_zero, getD_cons_succ, set_cons_zero, set_cons_succ, zero_add, add_zero, mul_one, zero_mul, m2, m3, m4]
    refine plan_q rfl rfl (qr_b2s (OwnC.sl hH 6 rfl hO99) rfl Try.underlying27 Try.underlying5 Try.underlying9) ?_
    try simp only [n0, n1, n2, n3, getD_cons_zero, getD_cons_succ, set_cons_zero, set_cons_succ, zero_add, add_zero, mul_one, zero_mul, m2, m3, m4]
    refine plan_p rfl rfl pr_move ?_
    try simp only [n0, n1, n2, n3, getD_cons_zero, getD_cons_succ, set_cons_zero, set_cons_succ, zero_add, add_zero, mul_one, zero_mul, m2, m3, m4]
    refine plan_q rfl rfl (qr_b2s (Sl.cuth (hb.chg hH.chg) (by omega)) rfl Try.underlying27 Try.underlying5 Try.underlying9) ?_
    try simp only [n0, n1, n2, n3, getD_cons_zero, getD_cons_succ, set_cons_zero, set_cons_succ, zero_add, add_zero, mul_one, zero_mul, m2, m3, m4]
    refine plan_p rfl rfl (pr_bin rfl rfl bin_eql_s) ?_
    try simp only [n0, n1, n2, n3, getD_cons_zero, getD_cons_succ, set_cons_zero, set_cons_succ, zero_add, add_zero, mul_one, zero_mul, m2, m3, m4]
    refine plan_p rfl rfl (pr_pick_t rfl) ?_
    try simp only [n0, n1, n2, n3, getD_cons_zero, getD_cons_succ, set_cons_zero, set_cons_succ, zero_add, add_zero, mul_one, zero_mul, m2, m3, m4]
    refine plan_p rfl rfl pr_assign ?_
    try simp only [n0, n1, n2, n3, getD_cons_zero, getD_cons_succ, set_cons_zero, set_cons_succ, zero_add, add_zero, mul_one, zero_mul, m2, m3, m4]
    refine plan_nil hH ?_
    clear hH
    intro w105 hH
    refine hK104 _ _ ?_
    try clear hK104 K104
    refine wp_ret ?_
    try simp only [Exit.then, Exit.inBlock, ↓reduceIte, Nat.reduceEqDiff]
    refine BP.ret1 rfl rfl ?_
    refine ⟨congrArg BV (beq_iff_eq.2 (?_ : hidL _ _ _ = _)), hH.chg⟩
    exact (congrArg (hidL _ _) (sealed_take _ _ _ _ _)).trans (hid_twice _ _ _)

theorem spoilt_wrong (f : Nat → UInt8) (nv av bv : Value) (nl al bl : List UInt8) (n : Int) (x : UInt8) (k : Nat) (w : World) (hn : Sl w nv nl) (ha : Sl w av al) (hb : Sl w bv bl) (hnl : nl.length ≤ reachBytes) (hk : (UInt64.ofNat (n % 18446744073709551616).toNat % UInt64.ofNat ((bl.take (min bl.length 120)).length + 16 + (al.take (min al.length 120)).length)).toNat = k) (hkl : k < ((bl.take (min bl.length 120)).length + 16 + (al.take (min al.length 120)).length)) (hx : x ≠ 0) (he : ¬ toldEq (kexp fun i => ((List.range 16).map fun i => f i).getD i 0) (hP (kexp fun i => ((List.range 16).map fun i => f i).getD i 0)) (nonceL nl) (sealedL (kexp fun i => ((List.range 16).map fun i => f i).getD i 0) (hP (kexp fun i => ((List.range 16).map fun i => f i).getD i 0)) (nonceL nl) (al.take (min al.length 120)) (bl.take (min bl.length 120))) (al.take (min al.length 120)) k x) : Ret Try.prog 13 #[.agg (letterC f nv av bv), I64 n, V8 x] w fun v w' => v = BV true ∧ Chg [] w w' := by
  have hr : reachBytes = 140737488351232 := rfl
  have hcut : (bl.take (min bl.length 120)).length ≤ 120 := by simp; omega
  have hcuta : (al.take (min al.length 120)).length ≤ 120 := by simp; omega
  have hnz : UInt64.ofNat ((bl.take (min bl.length 120)).length + 16 + (al.take (min al.length 120)).length) ≠ 0 := fun h => by have := congrArg UInt64.toNat h; rw [ofNat_toNat64 _ (by omega)] at this; simp at this
  refine Ret.enter Try.func13 rfl ?_
  simp only [Try.ntmps13, List.size_toArray, List.length_cons, List.length_nil, Nat.reduceAdd, Nat.reduceSub, frame_enter, List.replicate_succ, List.replicate_zero, List.nil_append, List.cons_append]
  have hH := Hp.start [] w
  refine wp_seq_k ?_
  intro K1 hK1
  refine wp_region_text [.x 0, .p 1] rfl ?_
  refine plan_box rfl rfl hH rfl ?_
  clear hH
  intro b2 w3 hH
  try simp only [n0, n1, n2, n3, getD_cons_zero, getD_cons_succ, set_cons_zero, set_cons_succ, zero_add, add_zero, mul_one, zero_mul, m2, m3, m4, m5, m6, m7, Value.cells, arr8_set, arr32_set, arr64_set, arrB_set] at hH ⊢
  refine plan_p rfl rfl pr_assign ?_
  try simp only [n0, n1, n2, n3, getD_cons_zero, getD_cons_succ, set_cons_zero, set_cons_succ, zero_add, add_zero, mul_one, zero_mul, m2, m3, m4]
  refine plan_nil hH ?_
  clear hH
  intro w4 hH
  refine hK1 _ _ ?_
  try clear hK1 K1
  refine wp_seq_k ?_
  intro K5 hK5
  refine wp_region_text [.p 0, .p 1, .x 2, .p 3, .p 4, .p 5, .p 6, .p 7] rfl ?_
  refine plan_p rfl rfl (pr_fieldAddr 0 rfl Try.underlying48 rfl rfl sz22) ?_
  try simp only [n0, n1, n2, n3, getD_cons_zero, getD_cons_succ, set_cons_zero, set_cons_succ, zero_add, add_zero, mul_one, zero_mul, m2, m3, m4]
  refine plan_p rfl rfl (pr_slice_arr_all rfl Try.underlying22 sz5) ?_
  try simp only [n0, n1, n2, n3, getD_cons_zero, getD_cons_succ, set_cons_zero, set_cons_succ, zero_add, add_zero, mul_one, zero_mul, m2, m3, m4]
  try simp only [Nat.mul_one, Nat.zero_add, Nat.add_sub_cancel_left]
  refine plan_callx rfl rfl hH cf23 (fun w' hH => gnew_calls _ _ w' (letter_key (hH.blk 0 rfl)) (by simp)) rfl (fun _ _ _ h => by obtain ⟨_, _, _, hg, _⟩ := h; exact hg) ?_
  clear hH
  intro w6 v7 w8 hH hp9
  obtain ⟨b10, b11, rfl, hg, hfc, hbc, hfx, hbx, hne⟩ := hp9
  replace hH := hH.callnew2 hg hbc hfc hbx hfx hne
  clear hg hfc hbc hfx hbx hne
  try simp only [n0, n1, n2, n3, getD_cons_zero, getD_cons_succ, set_cons_zero, set_cons_succ, zero_add, add_zero, mul_one, zero_mul, m2, m3, m4, m5, m6, m7, Value.cells, arr8_set, arr32_set, arr64_set, arrB_set] at hH ⊢
  try simp only [n0, n1, n2, n3, getD_cons_zero, getD_cons_succ, set_cons_zero, set_cons_succ, zero_add, add_zero, mul_one, zero_mul, m2, m3, m4]
  refine plan_p rfl rfl pr_move ?_
  try simp only [n0, n1, n2, n3, getD_cons_zero, getD_cons_succ, set_cons_zero, set_cons_succ, zero_add, add_zero, mul_one, zero_mul, m2, m3, m4]
  refine plan_p rfl rfl (pr_extract rfl rfl) ?_
  try simp only [n0, n1, n2, n3, getD_cons_zero, getD_cons_succ, set_cons_zero, set_cons_succ, zero_add, add_zero, mul_one, zero_mul, m2, m3, m4]
  refine plan_p rfl rfl (pr_extract rfl rfl) ?_
  try simp only [n0, n1, n2, n3, getD_cons_zero, getD_cons_succ, set_cons_zero, set_cons_succ, zero_add, add_zero, mul_one, zero_mul, m2, m3, m4]
  refine plan_p rfl rfl pr_assign ?_
  try simp only [n0, n1, n2, n3, getD_cons_zero, getD_cons_succ, set_cons_zero, set_cons_succ, zero_add, add_zero, mul_one, zero_mul, m2, m3, m4]
  refine plan_p rfl rfl pr_assign ?_
  try simp only [n0, n1, n2, n3, getD_cons_zero, getD_cons_succ, set_cons_zero, set_cons_succ, zero_add, add_zero, mul_one, zero_mul, m2, m3, m4]
  refine plan_nil hH ?_
  clear hH
  intro w12 hH
  refine hK5 _ _ ?_
  try clear hK5 K5
  refine wp_seq_k ?_
  intro K13 hK13
  refine wp_seq_k ?_
  intro K14 hK14
  refine wp_region_text [.q 0, .p 1, .p 2, .p 3, .p 4, .p 5] rfl ?_
  refine plan_q rfl rfl (qr_call cf24 (fun w' hw => sealed_calls w') rfl) ?_
  try simp only [n0, n1, n2, n3, getD_cons_zero, getD_cons_succ, set_cons_zero, set_cons_succ, zero_add, add_zero, mul_one, zero_mul, m2, m3, m4]
  refine plan_p rfl rfl (pr_not rfl) ?_
  try simp only [n0, n1, n2, n3, getD_cons_zero, getD_cons_succ, set_cons_zero, set_cons_succ, zero_add, add_zero, mul_one, zero_mul, m2, m3, m4]
  refine plan_p (v := BV false) rfl rfl (pr_move_v rfl) ?_
  try simp only [n0, n1, n2, n3, getD_cons_zero, getD_cons_succ, set_cons_zero, set_cons_succ, zero_add, add_zero, mul_one, zero_mul, m2, m3, m4]
  refine plan_p rfl rfl pr_move ?_
  try simp only [n0, n1, n2, n3, getD_cons_zero, getD_cons_succ, set_cons_zero, set_cons_succ, zero_add, add_zero, mul_one, zero_mul, m2, m3, m4]
  refine plan_p rfl rfl (pr_bin rfl rfl (by first | exact bin_neq_n (n := 0)  | exact bin_neq_i)) ?_
  try simp only [n0, n1, n2, n3, getD_cons_zero, getD_cons_succ, set_cons_zero, set_cons_succ, zero_add, add_zero, mul_one, zero_mul, m2, m3, m4]
  refine plan_p rfl rfl (pr_pick_f rfl) ?_
  try simp only [n0, n1, n2, n3, getD_cons_zero, getD_cons_succ, set_cons_zero, set_cons_succ, zero_add, add_zero, mul_one, zero_mul, m2, m3, m4]
  refine plan_nil hH ?_
  clear hH
  intro w15 hH
  refine hK14 _ _ ?_
  try clear hK14 K14
  refine wp_cond_false rfl ?_
  refine wp_skip ?_
  refine hK13 _ _ ?_
  try clear hK13 K13
  refine wp_seq_k ?_
  intro K16 hK16
  refine wp_region_text [.x 0, .p 1, .q 2, .e 3, .e 4, .p 5, .p 6] rfl ?_
  refine plan_buildSlice rfl rfl hH Try.underlying27 (by rfl) (bs0 ) ?_
  clear hH
  intro b17 w18 hH
  try simp only [n0, n1, n2, n3, getD_cons_zero, getD_cons_succ, set_cons_zero, set_cons_succ, zero_add, add_zero, mul_one, zero_mul, m2, m3, m4, m5, m6, m7, Value.cells, arr8_set, arr32_set, arr64_set, arrB_set] at hH ⊢
  refine plan_p rfl rfl (pr_fieldAddr 16 rfl Try.underlying48 rfl rfl sz27) ?_
  try simp only [n0, n1, n2, n3, getD_cons_zero, getD_cons_succ, set_cons_zero, set_cons_succ, zero_add, add_zero, mul_one, zero_mul, m2, m3, m4]
  refine plan_q rfl rfl (qr_load1 rfl Try.underlying27 rfl ((hH.blk 0 rfl).cell letterC_nonce)) ?_
  try simp only [n0, n1, n2, n3, getD_cons_zero, getD_cons_succ, set_cons_zero, set_cons_succ, zero_add, add_zero, mul_one, zero_mul, m2, m3, m4]
  refine plan_append 3 rfl rfl hH rfl (OwnC.of_bytes rfl) (fun w' hH => ((hn.chg hH.chg)).src) rfl rfl Try.underlying27 Try.underlying27 (.inl ⟨_, rfl⟩) sz5 bz5 ze5 rfl (by first | omega | (simp <;> omega)) (by first | omega | (simp <;> omega)) ?_
  clear hH
  intro o19 cap20 cs21 w22 hO23 hH
  try simp only [n0, n1, n2, n3, getD_cons_zero, getD_cons_succ, set_cons_zero, set_cons_succ, zero_add, add_zero, mul_one, zero_mul, m2, m3, m4] at hH ⊢
  try simp only [n0, n1, n2, n3, getD_cons_zero, getD_cons_succ, set_cons_zero, set_cons_succ, zero_add, add_zero, mul_one, zero_mul, m2, m3, m4, m5, m6, m7, Value.cells, arr8_set, arr32_set, arr64_set, arrB_set] at hH ⊢
  try rw [← List.map_append] at hO23
  try simp only [Nat.zero_add, List.nil_append, List.length_nil] at hO23 ⊢
  refine plan_appendz 3 (m := 12) rfl rfl hH rfl hO23 rfl rfl (by decide) Try.underlying27 Try.underlying3 sz5 bz5 ze5 (by first | omega | (simp <;> omega)) ?_
  clear hH
  intro o24 cap25 cs26 w27 hO28 hH
  try simp only [n0, n1, n2, n3, getD_cons_zero, getD_cons_succ, set_cons_zero, set_cons_succ, zero_add, add_zero, mul_one, zero_mul, m2, m3, m4] at hH ⊢
  try simp only [n0, n1, n2, n3, getD_cons_zero, getD_cons_succ, set_cons_zero, set_cons_succ, zero_add, add_zero, mul_one, zero_mul, m2, m3, m4, m5, m6, m7, Value.cells, arr8_set, arr32_set, arr64_set, arrB_set] at hH ⊢
  rw [← List.map_append] at hO28
  refine plan_p rfl rfl (pr_slice_Sl_h (hi := 12) (OwnC.sl hH 3 rfl hO28) rfl rfl Try.underlying27 sz5 (by first | omega | (first | exact Nat.lt_trans (u64_mod_k _ _ _ (ofNat_toNat64 ((bl.take (min bl.length 120)).length + 16 + (al.take (min al.length 120)).length) (by omega)) (by omega)) (by omega) | (simp only [List.length_set, sealedL_len]; omega) | (simp; omega) | simp))) ?_
  try simp only [n0, n1, n2, n3, getD_cons_zero, getD_cons_succ, set_cons_zero, set_cons_succ, zero_add, add_zero, mul_one, zero_mul, m2, m3, m4]
  refine plan_p rfl rfl pr_assign ?_
  try simp only [n0, n1, n2, n3, getD_cons_zero, getD_cons_succ, set_cons_zero, set_cons_succ, zero_add, add_zero, mul_one, zero_mul, m2, m3, m4]
  refine plan_nil hH ?_
  clear hH
  intro w29 hH
  refine hK16 _ _ ?_
  try clear hK16 K16
  refine wp_seq_k ?_
  intro K30 hK30
  obtain ⟨N31, hNw32, hNb33⟩ := hH.sizeN
  refine wp_region_pend [] [4] (ChgN N31) (by kernel_rfl) ?_
  refine Pend.plan (n := 0) (Far.chgN N31) (by kernel_rfl) (fun _ _ _ _ _ h => by first | exact h | exact BP.panic _ _ _ _ _ h) [.p 1, .p 5, .r 2 (ChgN N31), .q 3, .r 6 (ChgN N31), .x 0, .s 4 (ChgN N31), .q 7, .p 8, .p 9] [] _ _ (by simp [AllR]) (by simp [effects]) (by simp [marked]) (by kernel_rfl) ?_
  refine plan_p rfl rfl (pr_fieldAddr 17 rfl Try.underlying48 rfl rfl sz27) ?_
  try simp only [n0, n1, n2, n3, getD_cons_zero, getD_cons_succ, set_cons_zero, set_cons_succ, zero_add, add_zero, mul_one, zero_mul, m2, m3, m4]
  refine plan_p rfl rfl (pr_fieldAddr 18 rfl Try.underlying48 rfl rfl sz27) ?_
  try simp only [n0, n1, n2, n3, getD_cons_zero, getD_cons_succ, set_cons_zero, set_cons_succ, zero_add, add_zero, mul_one, zero_mul, m2, m3, m4]
  refine plan_r rfl rfl (rr_loadN (hH.blk 0 rfl) (hNb33 0 _ _ _ rfl) rfl Try.underlying27 rfl letterC_side) ?_
  try simp only [n0, n1, n2, n3, getD_cons_zero, getD_cons_succ, set_cons_zero, set_cons_succ, zero_add, add_zero, mul_one, zero_mul, m2, m3, m4]
  refine plan_q rfl rfl (qr_call cf25 (fun w' hw => cut_calls _ _ w' ((ha.chg hH.chg).chg hw)) rfl) ?_
  try simp only [n0, n1, n2, n3, getD_cons_zero, getD_cons_succ, set_cons_zero, set_cons_succ, zero_add, add_zero, mul_one, zero_mul, m2, m3, m4]
  refine plan_r rfl rfl (rr_loadN (hH.blk 0 rfl) (hNb33 0 _ _ _ rfl) rfl Try.underlying27 rfl letterC_bytes) ?_
  try simp only [n0, n1, n2, n3, getD_cons_zero, getD_cons_succ, set_cons_zero, set_cons_succ, zero_add, add_zero, mul_one, zero_mul, m2, m3, m4]
  refine plan_buildSliceN rfl rfl hNw32 hH Try.underlying27 (by rfl) (bs0 ) ?_
  clear hH
  intro b34 w35 hNw36 hNo37 hH
  try simp only [n0, n1, n2, n3, getD_cons_zero, getD_cons_succ, set_cons_zero, set_cons_succ, zero_add, add_zero, mul_one, zero_mul, m2, m3, m4, m5, m6, m7, Value.cells, arr8_set, arr32_set, arr64_set, arrB_set] at hH ⊢
  refine plan_appendN 4 rfl rfl hNw36 (fun b hb => by cases hb; exact hNo37) hH rfl (OwnC.of_bytes rfl) (fun w' hH => ((Sl.cuth (ha.chg hH.chg) (by omega))).src) rfl rfl Try.underlying27 Try.underlying27 (.inl ⟨_, rfl⟩) sz5 bz5 ze5 rfl (by first | omega | (simp <;> omega)) (by first | omega | (simp <;> omega)) ?_
  clear hH
  intro o38 cap39 cs40 w41 hO42 hNw43 hNo44 hH
  try simp only [n0, n1, n2, n3, getD_cons_zero, getD_cons_succ, set_cons_zero, set_cons_succ, zero_add, add_zero, mul_one, zero_mul, m2, m3, m4] at hH ⊢
  try simp only [n0, n1, n2, n3, getD_cons_zero, getD_cons_succ, set_cons_zero, set_cons_succ, zero_add, add_zero, mul_one, zero_mul, m2, m3, m4, m5, m6, m7, Value.cells, arr8_set, arr32_set, arr64_set, arrB_set] at hH ⊢
  try rw [← List.map_append] at hO42
  try simp only [Nat.zero_add, List.nil_append, List.length_nil] at hO42 ⊢
  refine plan_q rfl rfl (qr_call cf25 (fun w' hw => cut_calls _ _ w' ((hb.chg hH.chg).chg hw)) rfl) ?_
  try simp only [n0, n1, n2, n3, getD_cons_zero, getD_cons_succ, set_cons_zero, set_cons_succ, zero_add, add_zero, mul_one, zero_mul, m2, m3, m4]
  refine plan_p rfl rfl pr_assign ?_
  try simp only [n0, n1, n2, n3, getD_cons_zero, getD_cons_succ, set_cons_zero, set_cons_succ, zero_add, add_zero, mul_one, zero_mul, m2, m3, m4]
  refine plan_p rfl rfl pr_assign ?_
  try simp only [n0, n1, n2, n3, getD_cons_zero, getD_cons_succ, set_cons_zero, set_cons_succ, zero_add, add_zero, mul_one, zero_mul, m2, m3, m4]
  refine plan_nilN hNw43 hH ?_
  clear hH
  intro w45 hNw46 hH
  refine Pend.done (by kernel_rfl) ?_
  intro w47 hw48
  replace hH := hH.call hw48; clear hw48
  refine hK30 _ _ ?_
  try clear hK30 K30
  refine wp_seq_k ?_
  intro K49 hK49
  refine wp_region_text [.p 0, .p 1, .p 2, .p 3, .x 4, .p 5, .p 6, .p 7, .p 8, .p 9] rfl ?_
  refine plan_p rfl rfl pr_move ?_
  try simp only [n0, n1, n2, n3, getD_cons_zero, getD_cons_succ, set_cons_zero, set_cons_succ, zero_add, add_zero, mul_one, zero_mul, m2, m3, m4]
  refine plan_p rfl rfl pr_move ?_
  try simp only [n0, n1, n2, n3, getD_cons_zero, getD_cons_succ, set_cons_zero, set_cons_succ, zero_add, add_zero, mul_one, zero_mul, m2, m3, m4]
  refine plan_p rfl rfl pr_move ?_
  try simp only [n0, n1, n2, n3, getD_cons_zero, getD_cons_succ, set_cons_zero, set_cons_succ, zero_add, add_zero, mul_one, zero_mul, m2, m3, m4]
  refine plan_p rfl rfl pr_move ?_
  try simp only [n0, n1, n2, n3, getD_cons_zero, getD_cons_succ, set_cons_zero, set_cons_succ, zero_add, add_zero, mul_one, zero_mul, m2, m3, m4]
  refine plan_callx rfl rfl hH cf26 (fun w' hH => Seal_calls _ _ _ (hP _) _ _ _ _ _ _ w' (hH.blk 2 rfl) (hH.blk 1 rfl) (Sl.cuth (OwnC.sl hH 3 rfl hO28) (by first | omega | (first | exact Nat.lt_trans (u64_mod_k _ _ _ (ofNat_toNat64 ((bl.take (min bl.length 120)).length + 16 + (al.take (min al.length 120)).length) (by omega)) (by omega)) (by omega) | (simp only [List.length_set, sealedL_len]; omega) | (simp; omega) | simp))) (nonceL_len nl) (OwnC.sl hH 4 rfl hO42) (Sl.cuth (hb.chg hH.chg) (by omega)) (by simp; omega)) rfl (fun _ _ _ h => by obtain ⟨_, _, _, _, hg, _⟩ := h; exact hg) ?_
  clear hH
  intro w50 v51 w52 hH hp53
  obtain ⟨o54, cap55, cs56, rfl, hg, hO57, hfr⟩ := hp53
  replace hH := hH.callown hg hfr
  clear hg hfr
  try simp only [n0, n1, n2, n3, getD_cons_zero, getD_cons_succ, set_cons_zero, set_cons_succ, zero_add, add_zero, mul_one, zero_mul, m2, m3, m4, m5, m6, m7, Value.cells, arr8_set, arr32_set, arr64_set, arrB_set] at hH ⊢
  try simp only [n0, n1, n2, n3, getD_cons_zero, getD_cons_succ, set_cons_zero, set_cons_succ, zero_add, add_zero, mul_one, zero_mul, m2, m3, m4]
  refine plan_p rfl rfl pr_move ?_
  try simp only [n0, n1, n2, n3, getD_cons_zero, getD_cons_succ, set_cons_zero, set_cons_succ, zero_add, add_zero, mul_one, zero_mul, m2, m3, m4]
  refine plan_p rfl rfl (pr_extract rfl rfl) ?_
  try simp only [n0, n1, n2, n3, getD_cons_zero, getD_cons_succ, set_cons_zero, set_cons_succ, zero_add, add_zero, mul_one, zero_mul, m2, m3, m4]
  refine plan_p rfl rfl (pr_extract rfl rfl) ?_
  try simp only [n0, n1, n2, n3, getD_cons_zero, getD_cons_succ, set_cons_zero, set_cons_succ, zero_add, add_zero, mul_one, zero_mul, m2, m3, m4]
  refine plan_p rfl rfl pr_assign ?_
  try simp only [n0, n1, n2, n3, getD_cons_zero, getD_cons_succ, set_cons_zero, set_cons_succ, zero_add, add_zero, mul_one, zero_mul, m2, m3, m4]
  refine plan_p rfl rfl pr_assign ?_
  try simp only [n0, n1, n2, n3, getD_cons_zero, getD_cons_succ, set_cons_zero, set_cons_succ, zero_add, add_zero, mul_one, zero_mul, m2, m3, m4]
  refine plan_nil hH ?_
  clear hH
  intro w58 hH
  refine hK49 _ _ ?_
  try clear hK49 K49
  refine wp_seq_k ?_
  intro K59 hK59
  refine wp_seq_k ?_
  intro K60 hK60
  refine wp_region_text [.p 0, .p 1] rfl ?_
  refine plan_p rfl rfl pr_move ?_
  try simp only [n0, n1, n2, n3, getD_cons_zero, getD_cons_succ, set_cons_zero, set_cons_succ, zero_add, add_zero, mul_one, zero_mul, m2, m3, m4]
  refine plan_p rfl rfl (pr_bin rfl rfl (by first | exact bin_neq_n (n := 0)  | exact bin_neq_i)) ?_
  try simp only [n0, n1, n2, n3, getD_cons_zero, getD_cons_succ, set_cons_zero, set_cons_succ, zero_add, add_zero, mul_one, zero_mul, m2, m3, m4]
  refine plan_nil hH ?_
  clear hH
  intro w61 hH
  refine hK60 _ _ ?_
  try clear hK60 K60
  refine wp_cond_false rfl ?_
  refine wp_skip ?_
  refine hK59 _ _ ?_
  try clear hK59 K59
  refine wp_seq_k ?_
  intro K62 hK62
  refine wp_region_text [.p 0, .p 1, .p 2, .p 3, .p 4, .p 5, .p 6, .p 7, .p 8, .p 9, .p 10] rfl ?_
  refine plan_p rfl rfl pr_move ?_
  try simp only [n0, n1, n2, n3, getD_cons_zero, getD_cons_succ, set_cons_zero, set_cons_succ, zero_add, add_zero, mul_one, zero_mul, m2, m3, m4]
  refine plan_p rfl rfl (pr_conv rfl (by first | exact cnv_n_u64 Try.underlying3 Try.underlying43 | exact cnv_i_u64 Try.underlying3 Try.underlying43)) ?_
  try simp only [n0, n1, n2, n3, getD_cons_zero, getD_cons_succ, set_cons_zero, set_cons_succ, zero_add, add_zero, mul_one, zero_mul, m2, m3, m4]
  refine plan_p rfl rfl pr_move ?_
  try simp only [n0, n1, n2, n3, getD_cons_zero, getD_cons_succ, set_cons_zero, set_cons_succ, zero_add, add_zero, mul_one, zero_mul, m2, m3, m4]
  refine plan_p rfl rfl (pr_len_sl rfl Try.underlying27) ?_
  try simp only [n0, n1, n2, n3, getD_cons_zero, getD_cons_succ, set_cons_zero, set_cons_succ, zero_add, add_zero, mul_one, zero_mul, m2, m3, m4]
  refine plan_p rfl rfl pr_move ?_
  try simp only [n0, n1, n2, n3, getD_cons_zero, getD_cons_succ, set_cons_zero, set_cons_succ, zero_add, add_zero, mul_one, zero_mul, m2, m3, m4]
  refine plan_p rfl rfl (pr_len_sl rfl Try.underlying27) ?_
  try simp only [n0, n1, n2, n3, getD_cons_zero, getD_cons_succ, set_cons_zero, set_cons_succ, zero_add, add_zero, mul_one, zero_mul, m2, m3, m4]
  refine plan_p rfl rfl (pr_bin rfl rfl (by first | exact bin_add_n (by first | omega | (first | exact Nat.lt_trans (u64_mod_k _ _ _ (ofNat_toNat64 ((bl.take (min bl.length 120)).length + 16 + (al.take (min al.length 120)).length) (by omega)) (by omega)) (by omega) | (simp only [List.length_set, sealedL_len]; omega) | (simp; omega) | simp)) | exact bin_add_i (by first | omega | (first | exact Nat.lt_trans (u64_mod_k _ _ _ (ofNat_toNat64 ((bl.take (min bl.length 120)).length + 16 + (al.take (min al.length 120)).length) (by omega)) (by omega)) (by omega) | (simp only [List.length_set, sealedL_len]; omega) | (simp; omega) | simp)) (by first | omega | (first | exact Nat.lt_trans (u64_mod_k _ _ _ (ofNat_toNat64 ((bl.take (min bl.length 120)).length + 16 + (al.take (min al.length 120)).length) (by omega)) (by omega)) (by omega) | (simp only [List.length_set, sealedL_len]; omega) | (simp; omega) | simp)))) ?_
  try simp only [n0, n1, n2, n3, getD_cons_zero, getD_cons_succ, set_cons_zero, set_cons_succ, zero_add, add_zero, mul_one, zero_mul, m2, m3, m4]
  refine plan_p rfl rfl (pr_conv rfl (by first | exact cnv_n_u64 Try.underlying3 Try.underlying43 | exact cnv_i_u64 Try.underlying3 Try.underlying43)) ?_
  try simp only [n0, n1, n2, n3, getD_cons_zero, getD_cons_succ, set_cons_zero, set_cons_succ, zero_add, add_zero, mul_one, zero_mul, m2, m3, m4]
  refine plan_p rfl rfl (pr_bin rfl rfl (bin_rem_u64 _ _ (by assumption))) ?_
  try simp only [n0, n1, n2, n3, getD_cons_zero, getD_cons_succ, set_cons_zero, set_cons_succ, zero_add, add_zero, mul_one, zero_mul, m2, m3, m4]
  refine plan_p rfl rfl (pr_conv rfl (cnv_u64_n _ Try.underlying43 Try.underlying3 (by first | omega | (first | exact Nat.lt_trans (u64_mod_k _ _ _ (ofNat_toNat64 ((bl.take (min bl.length 120)).length + 16 + (al.take (min al.length 120)).length) (by omega)) (by omega)) (by omega) | (simp only [List.length_set, sealedL_len]; omega) | (simp; omega) | simp)))) ?_
  try simp only [n0, n1, n2, n3, getD_cons_zero, getD_cons_succ, set_cons_zero, set_cons_succ, zero_add, add_zero, mul_one, zero_mul, m2, m3, m4]
  refine plan_p rfl rfl pr_assign ?_
  try simp only [n0, n1, n2, n3, getD_cons_zero, getD_cons_succ, set_cons_zero, set_cons_succ, zero_add, add_zero, mul_one, zero_mul, m2, m3, m4]
  refine plan_nil hH ?_
  clear hH
  intro w63 hH
  try rw [hk]
  try simp only [hk] at *
  refine hK62 _ _ ?_
  try clear hK62 K62
  refine wp_seq_k ?_
  intro K64 hK64
  refine wp_seq_k ?_
  intro K65 hK65
  refine wp_region_text [.p 0, .p 1, .p 2, .p 3] rfl ?_
  refine plan_p rfl rfl pr_move ?_
  try simp only [n0, n1, n2, n3, getD_cons_zero, getD_cons_succ, set_cons_zero, set_cons_succ, zero_add, add_zero, mul_one, zero_mul, m2, m3, m4]
  refine plan_p rfl rfl pr_move ?_
  try simp only [n0, n1, n2, n3, getD_cons_zero, getD_cons_succ, set_cons_zero, set_cons_succ, zero_add, add_zero, mul_one, zero_mul, m2, m3, m4]
  refine plan_p rfl rfl (pr_len_sl rfl Try.underlying27) ?_
  try simp only [n0, n1, n2, n3, getD_cons_zero, getD_cons_succ, set_cons_zero, set_cons_succ, zero_add, add_zero, mul_one, zero_mul, m2, m3, m4]
  refine plan_p rfl rfl (pr_bin rfl rfl (by first | exact bin_lss_n  | exact bin_lss_i)) ?_
  try simp only [n0, n1, n2, n3, getD_cons_zero, getD_cons_succ, set_cons_zero, set_cons_succ, zero_add, add_zero, mul_one, zero_mul, m2, m3, m4]
  refine plan_nil hH ?_
  clear hH
  intro w66 hH
  refine hK65 _ _ ?_
  try clear hK65 K65
  refine wp_cond_split rfl (fun hc67 => ?_) (fun hc67 => ?_)
  ·
    try simp only [decide_eq_true_eq, decide_eq_false_iff_not, beq_iff_eq, bne_iff_ne, beq_eq_false_iff_ne, ne_eq, Bool.not_eq_true', Bool.not_eq_false', bne_eq_false_iff_eq, Nat.not_lt, Nat.not_le, gt_iff_lt, ge_iff_le] at hc67
    have hkc : k < (sealedL (kexp fun i => ((List.range 16).map fun i => f i).getD i 0) (hP (kexp fun i => ((List.range 16).map fun i => f i).getD i 0)) (nonceL nl) (al.take (min al.length 120)) (bl.take (min bl.length 120))).length := by rw [sealedL_len]; exact hc67
    have he2 : sealL (kexp fun i => ((List.range 16).map fun i => f i).getD i 0) (hP (kexp fun i => ((List.range 16).map fun i => f i).getD i 0)) (nonceL nl) (al.take (min al.length 120)) (((sealedL (kexp fun i => ((List.range 16).map fun i => f i).getD i 0) (hP (kexp fun i => ((List.range 16).map fun i => f i).getD i 0)) (nonceL nl) (al.take (min al.length 120)) (bl.take (min bl.length 120))).set k ((sealedL (kexp fun i => ((List.range 16).map fun i => f i).getD i 0) (hP (kexp fun i => ((List.range 16).map fun i => f i).getD i 0)) (nonceL nl) (al.take (min al.length 120)) (bl.take (min bl.length 120))).getD k 0 ^^^ x)).take (((sealedL (kexp fun i => ((List.range 16).map fun i => f i).getD i 0) (hP (kexp fun i => ((List.range 16).map fun i => f i).getD i 0)) (nonceL nl) (al.take (min al.length 120)) (bl.take (min bl.length 120))).set k ((sealedL (kexp fun i => ((List.range 16).map fun i => f i).getD i 0) (hP (kexp fun i => ((List.range 16).map fun i => f i).getD i 0)) (nonceL nl) (al.take (min al.length 120)) (bl.take (min bl.length 120))).getD k 0 ^^^ x)).length - 16)) ≠ ((sealedL (kexp fun i => ((List.range 16).map fun i => f i).getD i 0) (hP (kexp fun i => ((List.range 16).map fun i => f i).getD i 0)) (nonceL nl) (al.take (min al.length 120)) (bl.take (min bl.length 120))).set k ((sealedL (kexp fun i => ((List.range 16).map fun i => f i).getD i 0) (hP (kexp fun i => ((List.range 16).map fun i => f i).getD i 0)) (nonceL nl) (al.take (min al.length 120)) (bl.take (min bl.length 120))).getD k 0 ^^^ x)).drop (((sealedL (kexp fun i => ((List.range 16).map fun i => f i).getD i 0) (hP (kexp fun i => ((List.range 16).map fun i => f i).getD i 0)) (nonceL nl) (al.take (min al.length 120)) (bl.take (min bl.length 120))).set k ((sealedL (kexp fun i => ((List.range 16).map fun i => f i).getD i 0) (hP (kexp fun i => ((List.range 16).map fun i => f i).getD i 0)) (nonceL nl) (al.take (min al.length 120)) (bl.take (min bl.length 120))).getD k 0 ^^^ x)).length - 16) := by
      have := he
      unfold toldEq spoC spoS at this
      simp only [if_pos hkc] at this
      exact this
    refine wp_region_text [.p 0, .p 1, .p 2, .p 3, .p 4, .q 5, .p 6, .p 7, .p 8, .e 9] rfl ?_
    refine plan_p rfl rfl pr_move ?_
    try simp only [n0, n1, n2, n3, getD_cons_zero, getD_cons_succ, set_cons_zero, set_cons_succ, zero_add, add_zero, mul_one, zero_mul, m2, m3, m4]
    refine plan_p rfl rfl pr_move ?_
    try simp only [n0, n1, n2, n3, getD_cons_zero, getD_cons_succ, set_cons_zero, set_cons_succ, zero_add, add_zero, mul_one, zero_mul, m2, m3, m4]
    refine plan_p rfl rfl pr_move ?_
    try simp only [n0, n1, n2, n3, getD_cons_zero, getD_cons_succ, set_cons_zero, set_cons_succ, zero_add, add_zero, mul_one, zero_mul, m2, m3, m4]
    refine plan_p rfl rfl pr_move ?_
    try simp only [n0, n1, n2, n3, getD_cons_zero, getD_cons_succ, set_cons_zero, set_cons_succ, zero_add, add_zero, mul_one, zero_mul, m2, m3, m4]
    refine plan_p rfl rfl (pr_idx_Sl (OwnC.sl hH 5 rfl hO57) rfl rfl Try.underlying27 sz5 (by first | omega | (first | exact Nat.lt_trans (u64_mod_k _ _ _ (ofNat_toNat64 ((bl.take (min bl.length 120)).length + 16 + (al.take (min al.length 120)).length) (by omega)) (by omega)) (by omega) | (simp only [List.length_set, sealedL_len]; omega) | (simp; omega) | simp))) ?_
    try simp only [n0, n1, n2, n3, getD_cons_zero, getD_cons_succ, set_cons_zero, set_cons_succ, zero_add, add_zero, mul_one, zero_mul, m2, m3, m4]
    refine plan_q rfl rfl (qr_load1 rfl Try.underlying5 rfl (Sl.cell (OwnC.sl hH 5 rfl hO57) (by first | omega | (first | exact Nat.lt_trans (u64_mod_k _ _ _ (ofNat_toNat64 ((bl.take (min bl.length 120)).length + 16 + (al.take (min al.length 120)).length) (by omega)) (by omega)) (by omega) | (simp only [List.length_set, sealedL_len]; omega) | (simp; omega) | simp)))) ?_
    try simp only [n0, n1, n2, n3, getD_cons_zero, getD_cons_succ, set_cons_zero, set_cons_succ, zero_add, add_zero, mul_one, zero_mul, m2, m3, m4]
    refine plan_p rfl rfl pr_move ?_
    try simp only [n0, n1, n2, n3, getD_cons_zero, getD_cons_succ, set_cons_zero, set_cons_succ, zero_add, add_zero, mul_one, zero_mul, m2, m3, m4]
    refine plan_p rfl rfl (pr_bin rfl rfl (bin_xor_u8 _ _)) ?_
    try simp only [n0, n1, n2, n3, getD_cons_zero, getD_cons_succ, set_cons_zero, set_cons_succ, zero_add, add_zero, mul_one, zero_mul, m2, m3, m4]
    refine plan_p rfl rfl (pr_idx_Sl (OwnC.sl hH 5 rfl hO57) rfl rfl Try.underlying27 sz5 (by first | omega | (first | exact Nat.lt_trans (u64_mod_k _ _ _ (ofNat_toNat64 ((bl.take (min bl.length 120)).length + 16 + (al.take (min al.length 120)).length) (by omega)) (by omega)) (by omega) | (simp only [List.length_set, sealedL_len]; omega) | (simp; omega) | simp))) ?_
    try simp only [n0, n1, n2, n3, getD_cons_zero, getD_cons_succ, set_cons_zero, set_cons_succ, zero_add, add_zero, mul_one, zero_mul, m2, m3, m4]
    refine plan_storeO 5 rfl rfl hH rfl rfl hO57 rfl sz5 (by first | omega | (first | exact Nat.lt_trans (u64_mod_k _ _ _ (ofNat_toNat64 ((bl.take (min bl.length 120)).length + 16 + (al.take (min al.length 120)).length) (by omega)) (by omega)) (by omega) | (simp only [List.length_set, sealedL_len]; omega) | (simp; omega) | simp)) ?_
    clear hH
    intro cs69 w68 hO70 hH
    try simp only [n0, n1, n2, n3, getD_cons_zero, getD_cons_succ, set_cons_zero, set_cons_succ, zero_add, add_zero, mul_one, zero_mul, m2, m3, m4, m5, m6, m7, Value.cells, arr8_set, arr32_set, arr64_set, arrB_set] at hH ⊢
    refine plan_nil hH ?_
    clear hH
    intro w71 hH
    refine hK64 _ _ ?_
    try clear hK64 K64
    refine wp_seq_k ?_
    intro K72 hK72
    refine wp_region_text [.p 0, .p 1, .p 2, .p 3, .q 4, .p 5, .p 6, .p 7, .p 8, .p 9] rfl ?_
    refine plan_p rfl rfl pr_move ?_
    try simp only [n0, n1, n2, n3, getD_cons_zero, getD_cons_succ, set_cons_zero, set_cons_succ, zero_add, add_zero, mul_one, zero_mul, m2, m3, m4]
    refine plan_p rfl rfl pr_move ?_
    try simp only [n0, n1, n2, n3, getD_cons_zero, getD_cons_succ, set_cons_zero, set_cons_succ, zero_add, add_zero, mul_one, zero_mul, m2, m3, m4]
    refine plan_p rfl rfl pr_move ?_
    try simp only [n0, n1, n2, n3, getD_cons_zero, getD_cons_succ, set_cons_zero, set_cons_succ, zero_add, add_zero, mul_one, zero_mul, m2, m3, m4]
    refine plan_p rfl rfl pr_move ?_
    try simp only [n0, n1, n2, n3, getD_cons_zero, getD_cons_succ, set_cons_zero, set_cons_succ, zero_add, add_zero, mul_one, zero_mul, m2, m3, m4]
    refine plan_q rfl rfl (qr_call cf32 (fun w' hw => Open_wrong _ _ _ (hP _) _ _ _ _ _ _ w' (hw.nil_blk (hH.blk 2 rfl)) (hw.nil_blk (hH.blk 1 rfl)) ((Sl.cuth (OwnC.sl hH 3 rfl hO28) (by first | omega | (first | exact Nat.lt_trans (u64_mod_k _ _ _ (ofNat_toNat64 ((bl.take (min bl.length 120)).length + 16 + (al.take (min al.length 120)).length) (by omega)) (by omega)) (by omega) | (simp only [List.length_set, sealedL_len]; omega) | (simp; omega) | simp))).chg hw) (nonceL_len nl) ((OwnC.sl hH 4 rfl hO42).chg hw) ((OwnC.sl hH 5 rfl hO70).chg hw) (by simp only [List.length_set, sealedL_len]; omega) (by simp only [List.length_set, sealedL_len]; omega) he2) rfl) ?_
    try simp only [n0, n1, n2, n3, getD_cons_zero, getD_cons_succ, set_cons_zero, set_cons_succ, zero_add, add_zero, mul_one, zero_mul, m2, m3, m4]
    refine plan_p rfl rfl pr_move ?_
    try simp only [n0, n1, n2, n3, getD_cons_zero, getD_cons_succ, set_cons_zero, set_cons_succ, zero_add, add_zero, mul_one, zero_mul, m2, m3, m4]
    refine plan_p rfl rfl (pr_extract rfl rfl) ?_
    try simp only [n0, n1, n2, n3, getD_cons_zero, getD_cons_succ, set_cons_zero, set_cons_succ, zero_add, add_zero, mul_one, zero_mul, m2, m3, m4]
    refine plan_p rfl rfl (pr_extract rfl rfl) ?_
    try simp only [n0, n1, n2, n3, getD_cons_zero, getD_cons_succ, set_cons_zero, set_cons_succ, zero_add, add_zero, mul_one, zero_mul, m2, m3, m4]
    refine plan_p rfl rfl pr_assign ?_
    try simp only [n0, n1, n2, n3, getD_cons_zero, getD_cons_succ, set_cons_zero, set_cons_succ, zero_add, add_zero, mul_one, zero_mul, m2, m3, m4]
    refine plan_p rfl rfl pr_assign ?_
    try simp only [n0, n1, n2, n3, getD_cons_zero, getD_cons_succ, set_cons_zero, set_cons_succ, zero_add, add_zero, mul_one, zero_mul, m2, m3, m4]
    refine plan_nil hH ?_
    clear hH
    intro w73 hH
    refine hK72 _ _ ?_
    try clear hK72 K72
    refine wp_seq_k ?_
    intro K74 hK74
    refine wp_seq_k ?_
    intro K75 hK75
    refine wp_region_text [.p 0, .p 1] rfl ?_
    refine plan_p rfl rfl pr_move ?_
    try simp only [n0, n1, n2, n3, getD_cons_zero, getD_cons_succ, set_cons_zero, set_cons_succ, zero_add, add_zero, mul_one, zero_mul, m2, m3, m4]
    refine plan_p rfl rfl (pr_bin rfl rfl (bin_eql_u8 _ 0)) ?_
    try simp only [n0, n1, n2, n3, getD_cons_zero, getD_cons_succ, set_cons_zero, set_cons_succ, zero_add, add_zero, mul_one, zero_mul, m2, m3, m4]
    refine plan_nil hH ?_
    clear hH
    intro w76 hH
    refine hK75 _ _ ?_
    try clear hK75 K75
    refine wp_cond_false (by show BV _ = _; rw [beq_eq_false_iff_ne.2 hx]) ?_
    refine wp_skip ?_
    refine hK74 _ _ ?_
    try clear hK74 K74
    refine wp_seq_k ?_
    intro K77 hK77
    refine wp_region_text [.p 0, .p 1, .p 2, .p 3, .p 4, .p 5, .p 6, .p 7, .p 8, .q 9, .q 10, .p 11, .p 12] rfl ?_
    refine plan_p rfl rfl pr_move ?_
    try simp only [n0, n1, n2, n3, getD_cons_zero, getD_cons_succ, set_cons_zero, set_cons_succ, zero_add, add_zero, mul_one, zero_mul, m2, m3, m4]
    refine plan_p rfl rfl (pr_bin rfl rfl (by first | exact bin_eql_n (n := 4)  | exact bin_eql_i)) ?_
    try simp only [n0, n1, n2, n3, getD_cons_zero, getD_cons_succ, set_cons_zero, set_cons_succ, zero_add, add_zero, mul_one, zero_mul, m2, m3, m4]
    refine plan_p (v := BV true) rfl rfl (pr_move_v rfl) ?_
    try simp only [n0, n1, n2, n3, getD_cons_zero, getD_cons_succ, set_cons_zero, set_cons_succ, zero_add, add_zero, mul_one, zero_mul, m2, m3, m4]
    refine plan_p rfl rfl pr_move ?_
    try simp only [n0, n1, n2, n3, getD_cons_zero, getD_cons_succ, set_cons_zero, set_cons_succ, zero_add, add_zero, mul_one, zero_mul, m2, m3, m4]
    refine plan_p rfl rfl (pr_len_Sl (Sl.nil (w := w)) rfl Try.underlying27) ?_
    try simp only [n0, n1, n2, n3, getD_cons_zero, getD_cons_succ, set_cons_zero, set_cons_succ, zero_add, add_zero, mul_one, zero_mul, m2, m3, m4]
    refine plan_p rfl rfl (pr_bin rfl rfl (by first | exact bin_eql_n (n := 0)  | exact bin_eql_i)) ?_
    try simp only [n0, n1, n2, n3, getD_cons_zero, getD_cons_succ, set_cons_zero, set_cons_succ, zero_add, add_zero, mul_one, zero_mul, m2, m3, m4]
    refine plan_p rfl rfl (pr_pick_t rfl) ?_
    try simp only [n0, n1, n2, n3, getD_cons_zero, getD_cons_succ, set_cons_zero, set_cons_succ, zero_add, add_zero, mul_one, zero_mul, m2, m3, m4]
    refine plan_p (v := BV true) rfl rfl (pr_move_v rfl) ?_
    try simp only [n0, n1, n2, n3, getD_cons_zero, getD_cons_succ, set_cons_zero, set_cons_succ, zero_add, add_zero, mul_one, zero_mul, m2, m3, m4]
    refine plan_ps rfl rfl ?_
    try simp only [n0, n1, n2, n3, getD_cons_zero, getD_cons_succ, set_cons_zero, set_cons_succ, zero_add, add_zero, mul_one, zero_mul, m2, m3, m4]
    refine plan_qs rfl rfl ?_
    try simp only [n0, n1, n2, n3, getD_cons_zero, getD_cons_succ, set_cons_zero, set_cons_succ, zero_add, add_zero, mul_one, zero_mul, m2, m3, m4]
    refine plan_qs rfl rfl ?_
    try simp only [n0, n1, n2, n3, getD_cons_zero, getD_cons_succ, set_cons_zero, set_cons_succ, zero_add, add_zero, mul_one, zero_mul, m2, m3, m4]
    refine plan_p rfl rfl (pr_pick_t rfl) ?_
    try simp only [n0, n1, n2, n3, getD_cons_zero, getD_cons_succ, set_cons_zero, set_cons_succ, zero_add, add_zero, mul_one, zero_mul, m2, m3, m4]
    refine plan_p rfl rfl pr_assign ?_
    try simp only [n0, n1, n2, n3, getD_cons_zero, getD_cons_succ, set_cons_zero, set_cons_succ, zero_add, add_zero, mul_one, zero_mul, m2, m3, m4]
    refine plan_nil hH ?_
    clear hH
    intro w78 hH
    refine hK77 _ _ ?_
    try clear hK77 K77
    refine wp_ret ?_
    try simp only [Exit.then, Exit.inBlock, ↓reduceIte, Nat.reduceEqDiff]
    refine BP.ret1 rfl rfl ?_
    exact ⟨rfl, hH.chg⟩
  ·
    try simp only [decide_eq_true_eq, decide_eq_false_iff_not, beq_iff_eq, bne_iff_ne, beq_eq_false_iff_ne, ne_eq, Bool.not_eq_true', Bool.not_eq_false', bne_eq_false_iff_eq, Nat.not_lt, Nat.not_le, gt_iff_lt, ge_iff_le] at hc67
    have hkc : ¬ k < (sealedL (kexp fun i => ((List.range 16).map fun i => f i).getD i 0) (hP (kexp fun i => ((List.range 16).map fun i => f i).getD i 0)) (nonceL nl) (al.take (min al.length 120)) (bl.take (min bl.length 120))).length := by rw [sealedL_len]; omega
    have he2 : sealL (kexp fun i => ((List.range 16).map fun i => f i).getD i 0) (hP (kexp fun i => ((List.range 16).map fun i => f i).getD i 0)) (nonceL nl) ((al.take (min al.length 120)).set (k - ((bl.take (min bl.length 120)).length + 16)) ((al.take (min al.length 120)).getD (k - ((bl.take (min bl.length 120)).length + 16)) 0 ^^^ x)) ((sealedL (kexp fun i => ((List.range 16).map fun i => f i).getD i 0) (hP (kexp fun i => ((List.range 16).map fun i => f i).getD i 0)) (nonceL nl) (al.take (min al.length 120)) (bl.take (min bl.length 120))).take ((sealedL (kexp fun i => ((List.range 16).map fun i => f i).getD i 0) (hP (kexp fun i => ((List.range 16).map fun i => f i).getD i 0)) (nonceL nl) (al.take (min al.length 120)) (bl.take (min bl.length 120))).length - 16)) ≠ (sealedL (kexp fun i => ((List.range 16).map fun i => f i).getD i 0) (hP (kexp fun i => ((List.range 16).map fun i => f i).getD i 0)) (nonceL nl) (al.take (min al.length 120)) (bl.take (min bl.length 120))).drop ((sealedL (kexp fun i => ((List.range 16).map fun i => f i).getD i 0) (hP (kexp fun i => ((List.range 16).map fun i => f i).getD i 0)) (nonceL nl) (al.take (min al.length 120)) (bl.take (min bl.length 120))).length - 16) := by
      have := he
      unfold toldEq spoC spoS at this
      simp only [if_neg hkc] at this
      rw [show k - (sealedL (kexp fun i => ((List.range 16).map fun i => f i).getD i 0) (hP (kexp fun i => ((List.range 16).map fun i => f i).getD i 0)) (nonceL nl) (al.take (min al.length 120)) (bl.take (min bl.length 120))).length = k - ((bl.take (min bl.length 120)).length + 16) by rw [sealedL_len]] at this
      exact this
    refine wp_region_text [.p 0, .p 1, .p 2, .p 3, .p 4, .p 5, .p 6, .p 7, .p 8, .p 9, .p 10, .q 11, .p 12, .p 13, .p 14, .e 15] rfl ?_
    refine plan_p rfl rfl pr_move ?_
    try simp only [n0, n1, n2, n3, getD_cons_zero, getD_cons_succ, set_cons_zero, set_cons_succ, zero_add, add_zero, mul_one, zero_mul, m2, m3, m4]
    refine plan_p rfl rfl pr_move ?_
    try simp only [n0, n1, n2, n3, getD_cons_zero, getD_cons_succ, set_cons_zero, set_cons_succ, zero_add, add_zero, mul_one, zero_mul, m2, m3, m4]
    refine plan_p rfl rfl pr_move ?_
    try simp only [n0, n1, n2, n3, getD_cons_zero, getD_cons_succ, set_cons_zero, set_cons_succ, zero_add, add_zero, mul_one, zero_mul, m2, m3, m4]
    refine plan_p rfl rfl (pr_len_sl rfl Try.underlying27) ?_
    try simp only [n0, n1, n2, n3, getD_cons_zero, getD_cons_succ, set_cons_zero, set_cons_succ, zero_add, add_zero, mul_one, zero_mul, m2, m3, m4]
    refine plan_p rfl rfl (pr_bin rfl rfl (by first | exact bin_sub_n (by first | omega | (first | exact Nat.lt_trans (u64_mod_k _ _ _ (ofNat_toNat64 ((bl.take (min bl.length 120)).length + 16 + (al.take (min al.length 120)).length) (by omega)) (by omega)) (by omega) | (simp only [List.length_set, sealedL_len]; omega) | (simp; omega) | simp)) (by first | omega | (first | exact Nat.lt_trans (u64_mod_k _ _ _ (ofNat_toNat64 ((bl.take (min bl.length 120)).length + 16 + (al.take (min al.length 120)).length) (by omega)) (by omega)) (by omega) | (simp only [List.length_set, sealedL_len]; omega) | (simp; omega) | simp)) | exact bin_sub_i (by first | omega | (first | exact Nat.lt_trans (u64_mod_k _ _ _ (ofNat_toNat64 ((bl.take (min bl.length 120)).length + 16 + (al.take (min al.length 120)).length) (by omega)) (by omega)) (by omega) | (simp only [List.length_set, sealedL_len]; omega) | (simp; omega) | simp)) (by first | omega | (first | exact Nat.lt_trans (u64_mod_k _ _ _ (ofNat_toNat64 ((bl.take (min bl.length 120)).length + 16 + (al.take (min al.length 120)).length) (by omega)) (by omega)) (by omega) | (simp only [List.length_set, sealedL_len]; omega) | (simp; omega) | simp)))) ?_
    try simp only [n0, n1, n2, n3, getD_cons_zero, getD_cons_succ, set_cons_zero, set_cons_succ, zero_add, add_zero, mul_one, zero_mul, m2, m3, m4]
    refine plan_p rfl rfl pr_move ?_
    try simp only [n0, n1, n2, n3, getD_cons_zero, getD_cons_succ, set_cons_zero, set_cons_succ, zero_add, add_zero, mul_one, zero_mul, m2, m3, m4]
    refine plan_p rfl rfl pr_move ?_
    try simp only [n0, n1, n2, n3, getD_cons_zero, getD_cons_succ, set_cons_zero, set_cons_succ, zero_add, add_zero, mul_one, zero_mul, m2, m3, m4]
    refine plan_p rfl rfl pr_move ?_
    try simp only [n0, n1, n2, n3, getD_cons_zero, getD_cons_succ, set_cons_zero, set_cons_succ, zero_add, add_zero, mul_one, zero_mul, m2, m3, m4]
    refine plan_p rfl rfl (pr_len_sl rfl Try.underlying27) ?_
    try simp only [n0, n1, n2, n3, getD_cons_zero, getD_cons_succ, set_cons_zero, set_cons_succ, zero_add, add_zero, mul_one, zero_mul, m2, m3, m4]
    refine plan_p rfl rfl (pr_bin rfl rfl (by first | exact bin_sub_n (by first | omega | (first | exact Nat.lt_trans (u64_mod_k _ _ _ (ofNat_toNat64 ((bl.take (min bl.length 120)).length + 16 + (al.take (min al.length 120)).length) (by omega)) (by omega)) (by omega) | (simp only [List.length_set, sealedL_len]; omega) | (simp; omega) | simp)) (by first | omega | (first | exact Nat.lt_trans (u64_mod_k _ _ _ (ofNat_toNat64 ((bl.take (min bl.length 120)).length + 16 + (al.take (min al.length 120)).length) (by omega)) (by omega)) (by omega) | (simp only [List.length_set, sealedL_len]; omega) | (simp; omega) | simp)) | exact bin_sub_i (by first | omega | (first | exact Nat.lt_trans (u64_mod_k _ _ _ (ofNat_toNat64 ((bl.take (min bl.length 120)).length + 16 + (al.take (min al.length 120)).length) (by omega)) (by omega)) (by omega) | (simp only [List.length_set, sealedL_len]; omega) | (simp; omega) | simp)) (by first | omega | (first | exact Nat.lt_trans (u64_mod_k _ _ _ (ofNat_toNat64 ((bl.take (min bl.length 120)).length + 16 + (al.take (min al.length 120)).length) (by omega)) (by omega)) (by omega) | (simp only [List.length_set, sealedL_len]; omega) | (simp; omega) | simp)))) ?_
    try simp only [n0, n1, n2, n3, getD_cons_zero, getD_cons_succ, set_cons_zero, set_cons_succ, zero_add, add_zero, mul_one, zero_mul, m2, m3, m4]
    refine plan_p rfl rfl (pr_idx_Sl (OwnC.sl hH 4 rfl hO42) rfl rfl Try.underlying27 sz5 (by first | omega | (first | exact Nat.lt_trans (u64_mod_k _ _ _ (ofNat_toNat64 ((bl.take (min bl.length 120)).length + 16 + (al.take (min al.length 120)).length) (by omega)) (by omega)) (by omega) | (simp only [List.length_set, sealedL_len]; omega) | (simp; omega) | simp))) ?_
    try simp only [n0, n1, n2, n3, getD_cons_zero, getD_cons_succ, set_cons_zero, set_cons_succ, zero_add, add_zero, mul_one, zero_mul, m2, m3, m4]
    refine plan_q rfl rfl (qr_load1 rfl Try.underlying5 rfl (Sl.cell (OwnC.sl hH 4 rfl hO42) (by first | omega | (first | exact Nat.lt_trans (u64_mod_k _ _ _ (ofNat_toNat64 ((bl.take (min bl.length 120)).length + 16 + (al.take (min al.length 120)).length) (by omega)) (by omega)) (by omega) | (simp only [List.length_set, sealedL_len]; omega) | (simp; omega) | simp)))) ?_
    try simp only [n0, n1, n2, n3, getD_cons_zero, getD_cons_succ, set_cons_zero, set_cons_succ, zero_add, add_zero, mul_one, zero_mul, m2, m3, m4]
    refine plan_p rfl rfl pr_move ?_
    try simp only [n0, n1, n2, n3, getD_cons_zero, getD_cons_succ, set_cons_zero, set_cons_succ, zero_add, add_zero, mul_one, zero_mul, m2, m3, m4]
    refine plan_p rfl rfl (pr_bin rfl rfl (bin_xor_u8 _ _)) ?_
    try simp only [n0, n1, n2, n3, getD_cons_zero, getD_cons_succ, set_cons_zero, set_cons_succ, zero_add, add_zero, mul_one, zero_mul, m2, m3, m4]
    refine plan_p rfl rfl (pr_idx_Sl (OwnC.sl hH 4 rfl hO42) rfl rfl Try.underlying27 sz5 (by first | omega | (first | exact Nat.lt_trans (u64_mod_k _ _ _ (ofNat_toNat64 ((bl.take (min bl.length 120)).length + 16 + (al.take (min al.length 120)).length) (by omega)) (by omega)) (by omega) | (simp only [List.length_set, sealedL_len]; omega) | (simp; omega) | simp))) ?_
    try simp only [n0, n1, n2, n3, getD_cons_zero, getD_cons_succ, set_cons_zero, set_cons_succ, zero_add, add_zero, mul_one, zero_mul, m2, m3, m4]
    refine plan_storeO 4 rfl rfl hH rfl rfl hO42 rfl sz5 (by first | omega | (first | exact Nat.lt_trans (u64_mod_k _ _ _ (ofNat_toNat64 ((bl.take (min bl.length 120)).length + 16 + (al.take (min al.length 120)).length) (by omega)) (by omega)) (by omega) | (simp only [List.length_set, sealedL_len]; omega) | (simp; omega) | simp)) ?_
    clear hH
    intro cs80 w79 hO81 hH
    try simp only [n0, n1, n2, n3, getD_cons_zero, getD_cons_succ, set_cons_zero, set_cons_succ, zero_add, add_zero, mul_one, zero_mul, m2, m3, m4, m5, m6, m7, Value.cells, arr8_set, arr32_set, arr64_set, arrB_set] at hH ⊢
    refine plan_nil hH ?_
    clear hH
    intro w82 hH
    refine hK64 _ _ ?_
    try clear hK64 K64
    refine wp_seq_k ?_
    intro K83 hK83
    refine wp_region_text [.p 0, .p 1, .p 2, .p 3, .q 4, .p 5, .p 6, .p 7, .p 8, .p 9] rfl ?_
    refine plan_p rfl rfl pr_move ?_
    try simp only [n0, n1, n2, n3, getD_cons_zero, getD_cons_succ, set_cons_zero, set_cons_succ, zero_add, add_zero, mul_one, zero_mul, m2, m3, m4]
    refine plan_p rfl rfl pr_move ?_
    try simp only [n0, n1, n2, n3, getD_cons_zero, getD_cons_succ, set_cons_zero, set_cons_succ, zero_add, add_zero, mul_one, zero_mul, m2, m3, m4]
    refine plan_p rfl rfl pr_move ?_
    try simp only [n0, n1, n2, n3, getD_cons_zero, getD_cons_succ, set_cons_zero, set_cons_succ, zero_add, add_zero, mul_one, zero_mul, m2, m3, m4]
    refine plan_p rfl rfl pr_move ?_
    try simp only [n0, n1, n2, n3, getD_cons_zero, getD_cons_succ, set_cons_zero, set_cons_succ, zero_add, add_zero, mul_one, zero_mul, m2, m3, m4]
    refine plan_q rfl rfl (qr_call cf32 (fun w' hw => Open_wrong _ _ _ (hP _) _ _ _ _ _ _ w' (hw.nil_blk (hH.blk 2 rfl)) (hw.nil_blk (hH.blk 1 rfl)) ((Sl.cuth (OwnC.sl hH 3 rfl hO28) (by first | omega | (first | exact Nat.lt_trans (u64_mod_k _ _ _ (ofNat_toNat64 ((bl.take (min bl.length 120)).length + 16 + (al.take (min al.length 120)).length) (by omega)) (by omega)) (by omega) | (simp only [List.length_set, sealedL_len]; omega) | (simp; omega) | simp))).chg hw) (nonceL_len nl) ((OwnC.sl hH 4 rfl hO81).chg hw) ((OwnC.sl hH 5 rfl hO57).chg hw) (by simp only [List.length_set, sealedL_len]; omega) (by simp only [List.length_set, sealedL_len]; omega) he2) rfl) ?_
    try simp only [n0, n1, n2, n3, getD_cons_zero, getD_cons_succ, set_cons_zero, set_cons_succ, zero_add, add_zero, mul_one, zero_mul, m2, m3, m4]
    refine plan_p rfl rfl pr_move ?_
    try simp only [n0, n1, n2, n3, getD_cons_zero, getD_cons_succ, set_cons_zero, set_cons_succ, zero_add, add_zero, mul_one, zero_mul, m2, m3, m4]
    refine plan_p rfl rfl (pr_extract rfl rfl) ?_
    try simp only [n0, n1, n2, n3, getD_cons_zero, getD_cons_succ, set_cons_zero, set_cons_succ, zero_add, add_zero, mul_one, zero_mul, m2, m3, m4]
    refine plan_p rfl rfl (pr_extract rfl rfl) ?_
    try simp only [n0, n1, n2, n3, getD_cons_zero, getD_cons_succ, set_cons_zero, set_cons_succ, zero_add, add_zero, mul_one, zero_mul, m2, m3, m4]
    refine plan_p rfl rfl pr_assign ?_
    try simp only [n0, n1, n2, n3, getD_cons_zero, getD_cons_succ, set_cons_zero, set_cons_succ, zero_add, add_zero, mul_one, zero_mul, m2, m3, m4]
    refine plan_p rfl rfl pr_assign ?_
    try simp only [n0, n1, n2, n3, getD_cons_zero, getD_cons_succ, set_cons_zero, set_cons_succ, zero_add, add_zero, mul_one, zero_mul, m2, m3, m4]
    refine plan_nil hH ?_
    clear hH
    intro w84 hH
    refine hK83 _ _ ?_
    try clear hK83 K83
    refine wp_seq_k ?_
    intro K85 hK85
    refine wp_seq_k ?_
    intro K86 hK86
    refine wp_region_text [.p 0, .p 1] rfl ?_
    refine plan_p rfl rfl pr_move ?_
    try simp only [n0, n1, n2, n3, getD_cons_zero, getD_cons_succ, set_cons_zero, set_cons_succ, zero_add, add_zero, mul_one, zero_mul, m2, m3, m4]
    refine plan_p rfl rfl (pr_bin rfl rfl (bin_eql_u8 _ 0)) ?_
    try simp only [n0, n1, n2, n3, getD_cons_zero, getD_cons_succ, set_cons_zero, set_cons_succ, zero_add, add_zero, mul_one, zero_mul, m2, m3, m4]
    refine plan_nil hH ?_
    clear hH
    intro w87 hH
    refine hK86 _ _ ?_
    try clear hK86 K86
    refine wp_cond_false (by show BV _ = _; rw [beq_eq_false_iff_ne.2 hx]) ?_
    refine wp_skip ?_
    refine hK85 _ _ ?_
    try clear hK85 K85
    refine wp_seq_k ?_
    intro K88 hK88
    refine wp_region_text [.p 0, .p 1, .p 2, .p 3, .p 4, .p 5, .p 6, .p 7, .p 8, .q 9, .q 10, .p 11, .p 12] rfl ?_
    refine plan_p rfl rfl pr_move ?_
    try simp only [n0, n1, n2, n3, getD_cons_zero, getD_cons_succ, set_cons_zero, set_cons_succ, zero_add, add_zero, mul_one, zero_mul, m2, m3, m4]
    refine plan_p rfl rfl (pr_bin rfl rfl (by first | exact bin_eql_n (n := 4)  | exact bin_eql_i)) ?_
    try simp only [n0, n1, n2, n3, getD_cons_zero, getD_cons_succ, set_cons_zero, set_cons_succ, zero_add, add_zero, mul_one, zero_mul, m2, m3, m4]
    refine plan_p (v := BV true) rfl rfl (pr_move_v rfl) ?_
    try simp only [n0, n1, n2, n3, getD_cons_zero, getD_cons_succ, set_cons_zero, set_cons_succ, zero_add, add_zero, mul_one, zero_mul, m2, m3, m4]
    refine plan_p rfl rfl pr_move ?_
    try simp only [n0, n1, n2, n3, getD_cons_zero, getD_cons_succ, set_cons_zero, set_cons_succ, zero_add, add_zero, mul_one, zero_mul, m2, m3, m4]
    refine plan_p rfl rfl (pr_len_Sl (Sl.nil (w := w)) rfl Try.underlying27) ?_
    try simp only [n0, n1, n2, n3, getD_cons_zero, getD_cons_succ, set_cons_zero, set_cons_succ, zero_add, add_zero, mul_one, zero_mul, m2, m3, m4]
    refine plan_p rfl rfl (pr_bin rfl rfl (by first | exact bin_eql_n (n := 0)  | exact bin_eql_i)) ?_
    try simp only [n0, n1, n2, n3, getD_cons_zero, getD_cons_succ, set_cons_zero, set_cons_succ, zero_add, add_zero, mul_one, zero_mul, m2, m3, m4]
    refine plan_p rfl rfl (pr_pick_t rfl) ?_
    try simp only [n0, n1, n2, n3, getD_cons_zero, getD_cons_succ, set_cons_zero, set_cons_succ, zero_add, add_zero, mul_one, zero_mul, m2, m3, m4]
    refine plan_p (v := BV true) rfl rfl (pr_move_v rfl) ?_
    try simp only [n0, n1, n2, n3, getD_cons_zero, getD_cons_succ, set_cons_zero, set_cons_succ, zero_add, add_zero, mul_one, zero_mul, m2, m3, m4]
    refine plan_ps rfl rfl ?_
    try simp only [n0, n1, n2, n3, getD_cons_zero, getD_cons_succ, set_cons_zero, set_cons_succ, zero_add, add_zero, mul_one, zero_mul, m2, m3, m4]
    refine plan_qs rfl rfl ?_
    try simp only [n0, n1, n2, n3, getD_cons_zero, getD_cons_succ, set_cons_zero, set_cons_succ, zero_add, add_zero, mul_one, zero_mul, m2, m3, m4]
    refine plan_qs rfl rfl ?_
    try simp only [n0, n1, n2, n3, getD_cons_zero, getD_cons_succ, set_cons_zero, set_cons_succ, zero_add, add_zero, mul_one, zero_mul, m2, m3, m4]
    refine plan_p rfl rfl (pr_pick_t rfl) ?_
    try simp only [n0, n1, n2, n3, getD_cons_zero, getD_cons_succ, set_cons_zero, set_cons_succ, zero_add, add_zero, mul_one, zero_mul, m2, m3, m4]
    refine plan_p rfl rfl pr_assign ?_
    try simp only [n0, n1, n2, n3, getD_cons_zero, getD_cons_succ, set_cons_zero, set_cons_succ, zero_add, add_zero, mul_one, zero_mul, m2, m3, m4]
    refine plan_nil hH ?_
    clear hH
    intro w89 hH
    refine hK88 _ _ ?_
    try clear hK88 K88
    refine wp_ret ?_
    try simp only [Exit.then, Exit.inBlock, ↓reduceIte, Nat.reduceEqDiff]
    refine BP.ret1 rfl rfl ?_
    exact ⟨rfl, hH.chg⟩

theorem spoilt_right (f : Nat → UInt8) (nv av bv : Value) (nl al bl : List UInt8) (n : Int) (x : UInt8) (k : Nat) (w : World) (hn : Sl w nv nl) (ha : Sl w av al) (hb : Sl w bv bl) (hnl : nl.length ≤ reachBytes) (hk : (UInt64.ofNat (n % 18446744073709551616).toNat % UInt64.ofNat ((bl.take (min bl.length 120)).length + 16 + (al.take (min al.length 120)).length)).toNat = k) (hkl : k < ((bl.take (min bl.length 120)).length + 16 + (al.take (min al.length 120)).length)) (hx : x ≠ 0) (he : toldEq (kexp fun i => ((List.range 16).map fun i => f i).getD i 0) (hP (kexp fun i => ((List.range 16).map fun i => f i).getD i 0)) (nonceL nl) (sealedL (kexp fun i => ((List.range 16).map fun i => f i).getD i 0) (hP (kexp fun i => ((List.range 16).map fun i => f i).getD i 0)) (nonceL nl) (al.take (min al.length 120)) (bl.take (min bl.length 120))) (al.take (min al.length 120)) k x) (hz : (hP (kexp fun i => ((List.range 16).map fun i => f i).getD i 0)) = (0, 0)) : Ret Try.prog 13 #[.agg (letterC f nv av bv), I64 n, V8 x] w fun v w' => v = BV true ∧ Chg [] w w' := by
  have hr : reachBytes = 140737488351232 := rfl
  have hcut : (bl.take (min bl.length 120)).length ≤ 120 := by simp; omega
  have hcuta : (al.take (min al.length 120)).length ≤ 120 := by simp; omega
  have hnz : UInt64.ofNat ((bl.take (min bl.length 120)).length + 16 + (al.take (min al.length 120)).length) ≠ 0 := fun h => by have := congrArg UInt64.toNat h; rw [ofNat_toNat64 _ (by omega)] at this; simp at this
  refine Ret.enter Try.func13 rfl ?_
  simp only [Try.ntmps13, List.size_toArray, List.length_cons, List.length_nil, Nat.reduceAdd, Nat.reduceSub, frame_enter, List.replicate_succ, List.replicate_zero, List.nil_append, List.cons_append]
  have hH := Hp.start [] w
  refine wp_seq_k ?_
  intro K1 hK1
  refine wp_region_text [.x 0, .p 1] rfl ?_
  refine plan_box rfl rfl hH rfl ?_
  clear hH
  intro b2 w3 hH
  try simp only [n0, n1, n2, n3, getD_cons_zero, getD_cons_succ, set_cons_zero, set_cons_succ, zero_add, add_zero, mul_one, zero_mul, m2, m3, m4, m5, m6, m7, Value.cells, arr8_set, arr32_set, arr64_set, arrB_set] at hH ⊢
  refine plan_p rfl rfl pr_assign ?_
  try simp only [n0, n1, n2, n3, getD_cons_zero, getD_cons_succ, set_cons_zero, set_cons_succ, zero_add, add_zero, mul_one, zero_mul, m2, m3, m4]
  refine plan_nil hH ?_
  clear hH
  intro w4 hH
  refine hK1 _ _ ?_
  try clear hK1 K1
  refine wp_seq_k ?_
  intro K5 hK5
  refine wp_region_text [.p 0, .p 1, .x 2, .p 3, .p 4, .p 5, .p 6, .p 7] rfl ?_
  refine plan_p rfl rfl (pr_fieldAddr 0 rfl Try.underlying48 rfl rfl sz22) ?_
  try simp only [n0, n1, n2, n3, getD_cons_zero, getD_cons_succ, set_cons_zero, set_cons_succ, zero_add, add_zero, mul_one, zero_mul, m2, m3, m4]
  refine plan_p rfl rfl (pr_slice_arr_all rfl Try.underlying22 sz5) ?_
  try simp only [n0, n1, n2, n3, getD_cons_zero, getD_cons_succ, set_cons_zero, set_cons_succ, zero_add, add_zero, mul_one, zero_mul, m2, m3, m4]
  try simp only [Nat.mul_one, Nat.zero_add, Nat.add_sub_cancel_left]
  refine plan_callx rfl rfl hH cf23 (fun w' hH => gnew_calls _ _ w' (letter_key (hH.blk 0 rfl)) (by simp)) rfl (fun _ _ _ h => by obtain ⟨_, _, _, hg, _⟩ := h; exact hg) ?_
  clear hH
  intro w6 v7 w8 hH hp9
  obtain ⟨b10, b11, rfl, hg, hfc, hbc, hfx, hbx, hne⟩ := hp9
  replace hH := hH.callnew2 hg hbc hfc hbx hfx hne
  clear hg hfc hbc hfx hbx hne
  try simp only [n0, n1, n2, n3, getD_cons_zero, getD_cons_succ, set_cons_zero, set_cons_succ, zero_add, add_zero, mul_one, zero_mul, m2, m3, m4, m5, m6, m7, Value.cells, arr8_set, arr32_set, arr64_set, arrB_set] at hH ⊢
  try simp only [n0, n1, n2, n3, getD_cons_zero, getD_cons_succ, set_cons_zero, set_cons_succ, zero_add, add_zero, mul_one, zero_mul, m2, m3, m4]
  refine plan_p rfl rfl pr_move ?_
  try simp only [n0, n1, n2, n3, getD_cons_zero, getD_cons_succ, set_cons_zero, set_cons_succ, zero_add, add_zero, mul_one, zero_mul, m2, m3, m4]
  refine plan_p rfl rfl (pr_extract rfl rfl) ?_
  try simp only [n0, n1, n2, n3, getD_cons_zero, getD_cons_succ, set_cons_zero, set_cons_succ, zero_add, add_zero, mul_one, zero_mul, m2, m3, m4]
  refine plan_p rfl rfl (pr_extract rfl rfl) ?_
  try simp only [n0, n1, n2, n3, getD_cons_zero, getD_cons_succ, set_cons_zero, set_cons_succ, zero_add, add_zero, mul_one, zero_mul, m2, m3, m4]
  refine plan_p rfl rfl pr_assign ?_
  try simp only [n0, n1, n2, n3, getD_cons_zero, getD_cons_succ, set_cons_zero, set_cons_succ, zero_add, add_zero, mul_one, zero_mul, m2, m3, m4]
  refine plan_p rfl rfl pr_assign ?_
  try simp only [n0, n1, n2, n3, getD_cons_zero, getD_cons_succ, set_cons_zero, set_cons_succ, zero_add, add_zero, mul_one, zero_mul, m2, m3, m4]
  refine plan_nil hH ?_
  clear hH
  intro w12 hH
  refine hK5 _ _ ?_
  try clear hK5 K5
  refine wp_seq_k ?_
  intro K13 hK13
  refine wp_seq_k ?_
  intro K14 hK14
  refine wp_region_text [.q 0, .p 1, .p 2, .p 3, .p 4, .p 5] rfl ?_
  refine plan_q rfl rfl (qr_call cf24 (fun w' hw => sealed_calls w') rfl) ?_
  try simp only [n0, n1, n2, n3, getD_cons_zero, getD_cons_succ, set_cons_zero, set_cons_succ, zero_add, add_zero, mul_one, zero_mul, m2, m3, m4]
  refine plan_p rfl rfl (pr_not rfl) ?_
  try simp only [n0, n1, n2, n3, getD_cons_zero, getD_cons_succ, set_cons_zero, set_cons_succ, zero_add, add_zero, mul_one, zero_mul, m2, m3, m4]
  refine plan_p (v := BV false) rfl rfl (pr_move_v rfl) ?_
  try simp only [n0, n1, n2, n3, getD_cons_zero, getD_cons_succ, set_cons_zero, set_cons_succ, zero_add, add_zero, mul_one, zero_mul, m2, m3, m4]
  refine plan_p rfl rfl pr_move ?_
  try simp only [n0, n1, n2, n3, getD_cons_zero, getD_cons_succ, set_cons_zero, set_cons_succ, zero_add, add_zero, mul_one, zero_mul, m2, m3, m4]
  refine plan_p rfl rfl (pr_bin rfl rfl (by first | exact bin_neq_n (n := 0)  | exact bin_neq_i)) ?_
  try simp only [n0, n1, n2, n3, getD_cons_zero, getD_cons_succ, set_cons_zero, set_cons_succ, zero_add, add_zero, mul_one, zero_mul, m2, m3, m4]
  refine plan_p rfl rfl (pr_pick_f rfl) ?_
  try simp only [n0, n1, n2, n3, getD_cons_zero, getD_cons_succ, set_cons_zero, set_cons_succ, zero_add, add_zero, mul_one, zero_mul, m2, m3, m4]
  refine plan_nil hH ?_
  clear hH
  intro w15 hH
  refine hK14 _ _ ?_
  try clear hK14 K14
  refine wp_cond_false rfl ?_
  refine wp_skip ?_
  refine hK13 _ _ ?_
  try clear hK13 K13
  refine wp_seq_k ?_
  intro K16 hK16
  refine wp_region_text [.x 0, .p 1, .q 2, .e 3, .e 4, .p 5, .p 6] rfl ?_
  refine plan_buildSlice rfl rfl hH Try.underlying27 (by rfl) (bs0 ) ?_
  clear hH
  intro b17 w18 hH
  try simp only [n0, n1, n2, n3, getD_cons_zero, getD_cons_succ, set_cons_zero, set_cons_succ, zero_add, add_zero, mul_one, zero_mul, m2, m3, m4, m5, m6, m7, Value.cells, arr8_set, arr32_set, arr64_set, arrB_set] at hH ⊢
  refine plan_p rfl rfl (pr_fieldAddr 16 rfl Try.underlying48 rfl rfl sz27) ?_
  try simp only [n0, n1, n2, n3, getD_cons_zero, getD_cons_succ, set_cons_zero, set_cons_succ, zero_add, add_zero, mul_one, zero_mul, m2, m3, m4]
  refine plan_q rfl rfl (qr_load1 rfl Try.underlying27 rfl ((hH.blk 0 rfl).cell letterC_nonce)) ?_
  try simp only [n0, n1, n2, n3, getD_cons_zero, getD_cons_succ, set_cons_zero, set_cons_succ, zero_add, add_zero, mul_one, zero_mul, m2, m3, m4]
  refine plan_append 3 rfl rfl hH rfl (OwnC.of_bytes rfl) (fun w' hH => ((hn.chg hH.chg)).src) rfl rfl Try.underlying27 Try.underlying27 (.inl ⟨_, rfl⟩) sz5 bz5 ze5 rfl (by first | omega | (simp <;> omega)) (by first | omega | (simp <;> omega)) ?_
  clear hH
  intro o19 cap20 cs21 w22 hO23 hH
  try simp only [n0, n1, n2, n3, getD_cons_zero, getD_cons_succ, set_cons_zero, set_cons_succ, zero_add, add_zero, mul_one, zero_mul, m2, m3, m4] at hH ⊢
  try simp only [n0, n1, n2, n3, getD_cons_zero, getD_cons_succ, set_cons_zero, set_cons_succ, zero_add, add_zero, mul_one, zero_mul, m2, m3, m4, m5, m6, m7, Value.cells, arr8_set, arr32_set, arr64_set, arrB_set] at hH ⊢
  try rw [← List.map_append] at hO23
  try simp only [Nat.zero_add, List.nil_append, List.length_nil] at hO23 ⊢
  refine plan_appendz 3 (m := 12) rfl rfl hH rfl hO23 rfl rfl (by decide) Try.underlying27 Try.underlying3 sz5 bz5 ze5 (by first | omega | (simp <;> omega)) ?_
  clear hH
  intro o24 cap25 cs26 w27 hO28 hH
  try simp only [n0, n1, n2, n3, getD_cons_zero, getD_cons_succ, set_cons_zero, set_cons_succ, zero_add, add_zero, mul_one, zero_mul, m2, m3, m4] at hH ⊢
  try simp only [n0, n1, n2, n3, getD_cons_zero, getD_cons_succ, set_cons_zero, set_cons_succ, zero_add, add_zero, mul_one, zero_mul, m2, m3, m4, m5, m6, m7, Value.cells, arr8_set, arr32_set, arr64_set, arrB_set] at hH ⊢
  rw [← List.map_append] at hO28
  refine plan_p rfl rfl (pr_slice_Sl_h (hi := 12) (OwnC.sl hH 3 rfl hO28) rfl rfl Try.underlying27 sz5 (by first | omega | (first | exact Nat.lt_trans (u64_mod_k _ _ _ (ofNat_toNat64 ((bl.take (min bl.length 120)).length + 16 + (al.take (min al.length 120)).length) (by omega)) (by omega)) (by omega) | (simp only [List.length_set, sealedL_len]; omega) | (simp; omega) | simp))) ?_
  try simp only [n0, n1, n2, n3, getD_cons_zero, getD_cons_succ, set_cons_zero, set_cons_succ, zero_add, add_zero, mul_one, zero_mul, m2, m3, m4]
  refine plan_p rfl rfl pr_assign ?_
  try simp only [n0, n1, n2, n3, getD_cons_zero, getD_cons_succ, set_cons_zero, set_cons_succ, zero_add, add_zero, mul_one, zero_mul, m2, m3, m4]
  refine plan_nil hH ?_
  clear hH
  intro w29 hH
  refine hK16 _ _ ?_
  try clear hK16 K16
  refine wp_seq_k ?_
  intro K30 hK30
  obtain ⟨N31, hNw32, hNb33⟩ := hH.sizeN
  refine wp_region_pend [] [4] (ChgN N31) (by kernel_rfl) ?_
  refine Pend.plan (n := 0) (Far.chgN N31) (by kernel_rfl) (fun _ _ _ _ _ h => by first | exact h | exact BP.panic _ _ _ _ _ h) [.p 1, .p 5, .r 2 (ChgN N31), .q 3, .r 6 (ChgN N31), .x 0, .s 4 (ChgN N31), .q 7, .p 8, .p 9] [] _ _ (by simp [AllR]) (by simp [effects]) (by simp [marked]) (by kernel_rfl) ?_
  refine plan_p rfl rfl (pr_fieldAddr 17 rfl Try.underlying48 rfl rfl sz27) ?_
  try simp only [n0, n1, n2, n3, getD_cons_zero, getD_cons_succ, set_cons_zero, set_cons_succ, zero_add, add_zero, mul_one, zero_mul, m2, m3, m4]
  refine plan_p rfl rfl (pr_fieldAddr 18 rfl Try.underlying48 rfl rfl sz27) ?_
  try simp only [n0, n1, n2, n3, getD_cons_zero, getD_cons_succ, set_cons_zero, set_cons_succ, zero_add, add_zero, mul_one, zero_mul, m2, m3, m4]
  refine plan_r rfl rfl (rr_loadN (hH.blk 0 rfl) (hNb33 0 _ _ _ rfl) rfl Try.underlying27 rfl letterC_side) ?_
  try simp only [n0, n1, n2, n3, getD_cons_zero, getD_cons_succ, set_cons_zero, set_cons_succ, zero_add, add_zero, mul_one, zero_mul, m2, m3, m4]
  refine plan_q rfl rfl (qr_call cf25 (fun w' hw => cut_calls _ _ w' ((ha.chg hH.chg).chg hw)) rfl) ?_
  try simp only [n0, n1, n2, n3, getD_cons_zero, getD_cons_succ, set_cons_zero, set_cons_succ, zero_add, add_zero, mul_one, zero_mul, m2, m3, m4]
  refine plan_r rfl rfl (rr_loadN (hH.blk 0 rfl) (hNb33 0 _ _ _ rfl) rfl Try.underlying27 rfl letterC_bytes) ?_
  try simp only [n0, n1, n2, n3, getD_cons_zero, getD_cons_succ, set_cons_zero, set_cons_succ, zero_add, add_zero, mul_one, zero_mul, m2, m3, m4]
  refine plan_buildSliceN rfl rfl hNw32 hH Try.underlying27 (by rfl) (bs0 ) ?_
  clear hH
  intro b34 w35 hNw36 hNo37 hH
  try simp only [n0, n1, n2, n3, getD_cons_zero, getD_cons_succ, set_cons_zero, set_cons_succ, zero_add, add_zero, mul_one, zero_mul, m2, m3, m4, m5, m6, m7, Value.cells, arr8_set, arr32_set, arr64_set, arrB_set] at hH ⊢
  refine plan_appendN 4 rfl rfl hNw36 (fun b hb => by cases hb; exact hNo37) hH rfl (OwnC.of_bytes rfl) (fun w' hH => ((Sl.cuth (ha.chg hH.chg) (by omega))).src) rfl rfl Try.underlying27 Try.underlying27 (.inl ⟨_, rfl⟩) sz5 bz5 ze5 rfl (by first | omega | (simp <;> omega)) (by first | omega | (simp <;> omega)) ?_
  clear hH
  intro o38 cap39 cs40 w41 hO42 hNw43 hNo44 hH
  try simp only [n0, n1, n2, n3, getD_cons_zero, getD_cons_succ, set_cons_zero, set_cons_succ, zero_add, add_zero, mul_one, zero_mul, m2, m3, m4] at hH ⊢
  try simp only [n0, n1, n2, n3, getD_cons_zero, getD_cons_succ, set_cons_zero, set_cons_succ, zero_add, add_zero, mul_one, zero_mul, m2, m3, m4, m5, m6, m7, Value.cells, arr8_set, arr32_set, arr64_set, arrB_set] at hH ⊢
  try rw [← List.map_append] at hO42
  try simp only [Nat.zero_add, List.nil_append, List.length_nil] at hO42 ⊢
  refine plan_q rfl rfl (qr_call cf25 (fun w' hw => cut_calls _ _ w' ((hb.chg hH.chg).chg hw)) rfl) ?_
  try simp only [n0, n1, n2, n3, getD_cons_zero, getD_cons_succ, set_cons_zero, set_cons_succ, zero_add, add_zero, mul_one, zero_mul, m2, m3, m4]
  refine plan_p rfl rfl pr_assign ?_
  try simp only [n0, n1, n2, n3, getD_cons_zero, getD_cons_succ, set_cons_zero, set_cons_succ, zero_add, add_zero, mul_one, zero_mul, m2, m3, m4]
  refine plan_p rfl rfl pr_assign ?_
  try simp only [n0, n1, n2, n3, getD_cons_zero, getD_cons_succ, set_cons_zero, set_cons_succ, zero_add, add_zero, mul_one, zero_mul, m2, m3, m4]
  refine plan_nilN hNw43 hH ?_
  clear hH
  intro w45 hNw46 hH
  refine Pend.done (by kernel_rfl) ?_
  intro w47 hw48
  replace hH := hH.call hw48; clear hw48
  refine hK30 _ _ ?_
  try clear hK30 K30
  refine wp_seq_k ?_
  intro K49 hK49
  refine wp_region_text [.p 0, .p 1, .p 2, .p 3, .x 4, .p 5, .p 6, .p 7, .p 8, .p 9] rfl ?_
  refine plan_p rfl rfl pr_move ?_
  try simp only [n0, n1, n2, n3, getD_cons_zero, getD_cons_succ, set_cons_zero, set_cons_succ, zero_add, add_zero, mul_one, zero_mul, m2, m3, m4]
  refine plan_p rfl rfl pr_move ?_
  try simp only [n0, n1, n2, n3, getD_cons_zero, getD_cons_succ, set_cons_zero, set_cons_succ, zero_add, add_zero, mul_one, zero_mul, m2, m3, m4]
  refine plan_p rfl rfl pr_move ?_
  try simp only [n0, n1, n2, n3, getD_cons_zero, getD_cons_succ, set_cons_zero, set_cons_succ, zero_add, add_zero, mul_one, zero_mul, m2, m3, m4]
  refine plan_p rfl rfl pr_move ?_
  try simp only [n0, n1, n2, n3, getD_cons_zero, getD_cons_succ, set_cons_zero, set_cons_succ, zero_add, add_zero, mul_one, zero_mul, m2, m3, m4]
  refine plan_callx rfl rfl hH cf26 (fun w' hH => Seal_calls _ _ _ (hP _) _ _ _ _ _ _ w' (hH.blk 2 rfl) (hH.blk 1 rfl) (Sl.cuth (OwnC.sl hH 3 rfl hO28) (by first | omega | (first | exact Nat.lt_trans (u64_mod_k _ _ _ (ofNat_toNat64 ((bl.take (min bl.length 120)).length + 16 + (al.take (min al.length 120)).length) (by omega)) (by omega)) (by omega) | (simp only [List.length_set, sealedL_len]; omega) | (simp; omega) | simp))) (nonceL_len nl) (OwnC.sl hH 4 rfl hO42) (Sl.cuth (hb.chg hH.chg) (by omega)) (by simp; omega)) rfl (fun _ _ _ h => by obtain ⟨_, _, _, _, hg, _⟩ := h; exact hg) ?_
  clear hH
  intro w50 v51 w52 hH hp53
  obtain ⟨o54, cap55, cs56, rfl, hg, hO57, hfr⟩ := hp53
  replace hH := hH.callown hg hfr
  clear hg hfr
  try simp only [n0, n1, n2, n3, getD_cons_zero, getD_cons_succ, set_cons_zero, set_cons_succ, zero_add, add_zero, mul_one, zero_mul, m2, m3, m4, m5, m6, m7, Value.cells, arr8_set, arr32_set, arr64_set, arrB_set] at hH ⊢
  try simp only [n0, n1, n2, n3, getD_cons_zero, getD_cons_succ, set_cons_zero, set_cons_succ, zero_add, add_zero, mul_one, zero_mul, m2, m3, m4]
  refine plan_p rfl rfl pr_move ?_
  try simp only [n0, n1, n2, n3, getD_cons_zero, getD_cons_succ, set_cons_zero, set_cons_succ, zero_add, add_zero, mul_one, zero_mul, m2, m3, m4]
  refine plan_p rfl rfl (pr_extract rfl rfl) ?_
  try simp only [n0, n1, n2, n3, getD_cons_zero, getD_cons_succ, set_cons_zero, set_cons_succ, zero_add, add_zero, mul_one, zero_mul, m2, m3, m4]
  refine plan_p rfl rfl (pr_extract rfl rfl) ?_
  try simp only [n0, n1, n2, n3, getD_cons_zero, getD_cons_succ, set_cons_zero, set_cons_succ, zero_add, add_zero, mul_one, zero_mul, m2, m3, m4]
  refine plan_p rfl rfl pr_assign ?_
  try simp only [n0, n1, n2, n3, getD_cons_zero, getD_cons_succ, set_cons_zero, set_cons_succ, zero_add, add_zero, mul_one, zero_mul, m2, m3, m4]
  refine plan_p rfl rfl pr_assign ?_
  try simp only [n0, n1, n2, n3, getD_cons_zero, getD_cons_succ, set_cons_zero, set_cons_succ, zero_add, add_zero, mul_one, zero_mul, m2, m3, m4]
  refine plan_nil hH ?_
  clear hH
  intro w58 hH
  refine hK49 _ _ ?_
  try clear hK49 K49
  refine wp_seq_k ?_
  intro K59 hK59
  refine wp_seq_k ?_
  intro K60 hK60
  refine wp_region_text [.p 0, .p 1] rfl ?_
  refine plan_p rfl rfl pr_move ?_
  try simp only [n0, n1, n2, n3, getD_cons_zero, getD_cons_succ, set_cons_zero, set_cons_succ, zero_add, add_zero, mul_one, zero_mul, m2, m3, m4]
  refine plan_p rfl rfl (pr_bin rfl rfl (by first | exact bin_neq_n (n := 0)  | exact bin_neq_i)) ?_
  try simp only [n0, n1, n2, n3, getD_cons_zero, getD_cons_succ, set_cons_zero, set_cons_succ, zero_add, add_zero, mul_one, zero_mul, m2, m3, m4]
  refine plan_nil hH ?_
  clear hH
  intro w61 hH
  refine hK60 _ _ ?_
  try clear hK60 K60
  refine wp_cond_false rfl ?_
  refine wp_skip ?_
  refine hK59 _ _ ?_
  try clear hK59 K59
  refine wp_seq_k ?_
  intro K62 hK62
  refine wp_region_text [.p 0, .p 1, .p 2, .p 3, .p 4, .p 5, .p 6, .p 7, .p 8, .p 9, .p 10] rfl ?_
  refine plan_p rfl rfl pr_move ?_
  try simp only [n0, n1, n2, n3, getD_cons_zero, getD_cons_succ, set_cons_zero, set_cons_succ, zero_add, add_zero, mul_one, zero_mul, m2, m3, m4]
  refine plan_p rfl rfl (pr_conv rfl (by first | exact cnv_n_u64 Try.underlying3 Try.underlying43 | exact cnv_i_u64 Try.underlying3 Try.underlying43)) ?_
  try simp only [n0, n1, n2, n3, getD_cons_zero, getD_cons_succ, set_cons_zero, set_cons_succ, zero_add, add_zero, mul_one, zero_mul, m2, m3, m4]
  refine plan_p rfl rfl pr_move ?_
  try simp only [n0, n1, n2, n3, getD_cons_zero, getD_cons_succ, set_cons_zero, set_cons_succ, zero_add, add_zero, mul_one, zero_mul, m2, m3, m4]
  refine plan_p rfl rfl (pr_len_sl rfl Try.underlying27) ?_
  try simp only [n0, n1, n2, n3, getD_cons_zero, getD_cons_succ, set_cons_zero, set_cons_succ, zero_add, add_zero, mul_one, zero_mul, m2, m3, m4]
  refine plan_p rfl rfl pr_move ?_
  try simp only [n0, n1, n2, n3, getD_cons_zero, getD_cons_succ, set_cons_zero, set_cons_succ, zero_add, add_zero, mul_one, zero_mul, m2, m3, m4]
  refine plan_p rfl rfl (pr_len_sl rfl Try.underlying27) ?_
  try simp only [n0, n1, n2, n3, getD_cons_zero, getD_cons_succ, set_cons_zero, set_cons_succ, zero_add, add_zero, mul_one, zero_mul, m2, m3, m4]
  refine plan_p rfl rfl (pr_bin rfl rfl (by first | exact bin_add_n (by first | omega | (first | exact Nat.lt_trans (u64_mod_k _ _ _ (ofNat_toNat64 ((bl.take (min bl.length 120)).length + 16 + (al.take (min al.length 120)).length) (by omega)) (by omega)) (by omega) | (simp only [List.length_set, sealedL_len]; omega) | (simp; omega) | simp)) | exact bin_add_i (by first | omega | (first | exact Nat.lt_trans (u64_mod_k _ _ _ (ofNat_toNat64 ((bl.take (min bl.length 120)).length + 16 + (al.take (min al.length 120)).length) (by omega)) (by omega)) (by omega) | (simp only [List.length_set, sealedL_len]; omega) | (simp; omega) | simp)) (by first | omega | (first | exact Nat.lt_trans (u64_mod_k _ _ _ (ofNat_toNat64 ((bl.take (min bl.length 120)).length + 16 + (al.take (min al.length 120)).length) (by omega)) (by omega)) (by omega) | (simp only [List.length_set, sealedL_len]; omega) | (simp; omega) | simp)))) ?_
  try simp only [n0, n1, n2, n3, getD_cons_zero, getD_cons_succ, set_cons_zero, set_cons_succ, zero_add, add_zero, mul_one, zero_mul, m2, m3, m4]
  refine plan_p rfl rfl (pr_conv rfl (by first | exact cnv_n_u64 Try.underlying3 Try.underlying43 | exact cnv_i_u64 Try.underlying3 Try.underlying43)) ?_
  try simp only [n0, n1, n2, n3, getD_cons_zero, getD_cons_succ, set_cons_zero, set_cons_succ, zero_add, add_zero, mul_one, zero_mul, m2, m3, m4]
  refine plan_p rfl rfl (pr_bin rfl rfl (bin_rem_u64 _ _ (by assumption))) ?_
  try simp only [n0, n1, n2, n3, getD_cons_zero, getD_cons_succ, set_cons_zero, set_cons_succ, zero_add, add_zero, mul_one, zero_mul, m2, m3, m4]
  refine plan_p rfl rfl (pr_conv rfl (cnv_u64_n _ Try.underlying43 Try.underlying3 (by first | omega | (first | exact Nat.lt_trans (u64_mod_k _ _ _ (ofNat_toNat64 ((bl.take (min bl.length 120)).length + 16 + (al.take (min al.length 120)).length) (by omega)) (by omega)) (by omega) | (simp only [List.length_set, sealedL_len]; omega) | (simp; omega) | simp)))) ?_
  try simp only [n0, n1, n2, n3, getD_cons_zero, getD_cons_succ, set_cons_zero, set_cons_succ, zero_add, add_zero, mul_one, zero_mul, m2, m3, m4]
  refine plan_p rfl rfl pr_assign ?_
  try simp only [n0, n1, n2, n3, getD_cons_zero, getD_cons_succ, set_cons_zero, set_cons_succ, zero_add, add_zero, mul_one, zero_mul, m2, m3, m4]
  refine plan_nil hH ?_
  clear hH
  intro w63 hH
  try rw [hk]
  try simp only [hk] at *
  refine hK62 _ _ ?_
  try clear hK62 K62
  refine wp_seq_k ?_
  intro K64 hK64
  refine wp_seq_k ?_
  intro K65 hK65
  refine wp_region_text [.p 0, .p 1, .p 2, .p 3] rfl ?_
  refine plan_p rfl rfl pr_move ?_
  try simp only [n0, n1, n2, n3, getD_cons_zero, getD_cons_succ, set_cons_zero, set_cons_succ, zero_add, add_zero, mul_one, zero_mul, m2, m3, m4]
  refine plan_p rfl rfl pr_move ?_
  try simp only [n0, n1, n2, n3, getD_cons_zero, getD_cons_succ, set_cons_zero, set_cons_succ, zero_add, add_zero, mul_one, zero_mul, m2, m3, m4]
  refine plan_p rfl rfl (pr_len_sl rfl Try.underlying27) ?_
  try simp only [n0, n1, n2, n3, getD_cons_zero, getD_cons_succ, set_cons_zero, set_cons_succ, zero_add, add_zero, mul_one, zero_mul, m2, m3, m4]
  refine plan_p rfl rfl (pr_bin rfl rfl (by first | exact bin_lss_n  | exact bin_lss_i)) ?_
  try simp only [n0, n1, n2, n3, getD_cons_zero, getD_cons_succ, set_cons_zero, set_cons_succ, zero_add, add_zero, mul_one, zero_mul, m2, m3, m4]
  refine plan_nil hH ?_
  clear hH
  intro w66 hH
  refine hK65 _ _ ?_
  try clear hK65 K65
  refine wp_cond_split rfl (fun hc67 => ?_) (fun hc67 => ?_)
  ·
    try simp only [decide_eq_true_eq, decide_eq_false_iff_not, beq_iff_eq, bne_iff_ne, beq_eq_false_iff_ne, ne_eq, Bool.not_eq_true', Bool.not_eq_false', bne_eq_false_iff_eq, Nat.not_lt, Nat.not_le, gt_iff_lt, ge_iff_le] at hc67
    have hkc : k < (sealedL (kexp fun i => ((List.range 16).map fun i => f i).getD i 0) (hP (kexp fun i => ((List.range 16).map fun i => f i).getD i 0)) (nonceL nl) (al.take (min al.length 120)) (bl.take (min bl.length 120))).length := by rw [sealedL_len]; exact hc67
    have he2 : sealL (kexp fun i => ((List.range 16).map fun i => f i).getD i 0) (hP (kexp fun i => ((List.range 16).map fun i => f i).getD i 0)) (nonceL nl) (al.take (min al.length 120)) (((sealedL (kexp fun i => ((List.range 16).map fun i => f i).getD i 0) (hP (kexp fun i => ((List.range 16).map fun i => f i).getD i 0)) (nonceL nl) (al.take (min al.length 120)) (bl.take (min bl.length 120))).set k ((sealedL (kexp fun i => ((List.range 16).map fun i => f i).getD i 0) (hP (kexp fun i => ((List.range 16).map fun i => f i).getD i 0)) (nonceL nl) (al.take (min al.length 120)) (bl.take (min bl.length 120))).getD k 0 ^^^ x)).take (((sealedL (kexp fun i => ((List.range 16).map fun i => f i).getD i 0) (hP (kexp fun i => ((List.range 16).map fun i => f i).getD i 0)) (nonceL nl) (al.take (min al.length 120)) (bl.take (min bl.length 120))).set k ((sealedL (kexp fun i => ((List.range 16).map fun i => f i).getD i 0) (hP (kexp fun i => ((List.range 16).map fun i => f i).getD i 0)) (nonceL nl) (al.take (min al.length 120)) (bl.take (min bl.length 120))).getD k 0 ^^^ x)).length - 16)) = ((sealedL (kexp fun i => ((List.range 16).map fun i => f i).getD i 0) (hP (kexp fun i => ((List.range 16).map fun i => f i).getD i 0)) (nonceL nl) (al.take (min al.length 120)) (bl.take (min bl.length 120))).set k ((sealedL (kexp fun i => ((List.range 16).map fun i => f i).getD i 0) (hP (kexp fun i => ((List.range 16).map fun i => f i).getD i 0)) (nonceL nl) (al.take (min al.length 120)) (bl.take (min bl.length 120))).getD k 0 ^^^ x)).drop (((sealedL (kexp fun i => ((List.range 16).map fun i => f i).getD i 0) (hP (kexp fun i => ((List.range 16).map fun i => f i).getD i 0)) (nonceL nl) (al.take (min al.length 120)) (bl.take (min bl.length 120))).set k ((sealedL (kexp fun i => ((List.range 16).map fun i => f i).getD i 0) (hP (kexp fun i => ((List.range 16).map fun i => f i).getD i 0)) (nonceL nl) (al.take (min al.length 120)) (bl.take (min bl.length 120))).getD k 0 ^^^ x)).length - 16) := by
      have := he
      unfold toldEq spoC spoS at this
      simp only [if_pos hkc] at this
      exact this
    refine wp_region_text [.p 0, .p 1, .p 2, .p 3, .p 4, .q 5, .p 6, .p 7, .p 8, .e 9] rfl ?_
    refine plan_p rfl rfl pr_move ?_
    try simp only [n0, n1, n2, n3, getD_cons_zero, getD_cons_succ, set_cons_zero, set_cons_succ, zero_add, add_zero, mul_one, zero_mul, m2, m3, m4]
    refine plan_p rfl rfl pr_move ?_
    try simp only [n0, n1, n2, n3, getD_cons_zero, getD_cons_succ, set_cons_zero, set_cons_succ, zero_add, add_zero, mul_one, zero_mul, m2, m3, m4]
    refine plan_p rfl rfl pr_move ?_
    try simp only [n0, n1, n2, n3, getD_cons_zero, getD_cons_succ, set_cons_zero, set_cons_succ, zero_add, add_zero, mul_one, zero_mul, m2, m3, m4]
    refine plan_p rfl rfl pr_move ?_
    try simp only [n0, n1, n2, n3, getD_cons_zero, getD_cons_succ, set_cons_zero, set_cons_succ, zero_add, add_zero, mul_one, zero_mul, m2, m3, m4]
    refine plan_p rfl rfl (pr_idx_Sl (OwnC.sl hH 5 rfl hO57) rfl rfl Try.underlying27 sz5 (by first | omega | (first | exact Nat.lt_trans (u64_mod_k _ _ _ (ofNat_toNat64 ((bl.take (min bl.length 120)).length + 16 + (al.take (min al.length 120)).length) (by omega)) (by omega)) (by omega) | (simp only [List.length_set, sealedL_len]; omega) | (simp; omega) | simp))) ?_
    try simp only [n0, n1, n2, n3, getD_cons_zero, getD_cons_succ, set_cons_zero, set_cons_succ, zero_add, add_zero, mul_one, zero_mul, m2, m3, m4]
    refine plan_q rfl rfl (qr_load1 rfl Try.underlying5 rfl (Sl.cell (OwnC.sl hH 5 rfl hO57) (by first | omega | (first | exact Nat.lt_trans (u64_mod_k _ _ _ (ofNat_toNat64 ((bl.take (min bl.length 120)).length + 16 + (al.take (min al.length 120)).length) (by omega)) (by omega)) (by omega) | (simp only [List.length_set, sealedL_len]; omega) | (simp; omega) | simp)))) ?_
    try simp only [n0, n1, n2, n3, getD_cons_zero, getD_cons_succ, set_cons_zero, set_cons_succ, zero_add, add_zero, mul_one, zero_mul, m2, m3, m4]
    refine plan_p rfl rfl pr_move ?_
    try simp only [n0, n1, n2, n3, getD_cons_zero, getD_cons_succ, set_cons_zero, set_cons_succ, zero_add, add_zero, mul_one, zero_mul, m2, m3, m4]
    refine plan_p rfl rfl (pr_bin rfl rfl (bin_xor_u8 _ _)) ?_
    try simp only [n0, n1, n2, n3, getD_cons_zero, getD_cons_succ, set_cons_zero, set_cons_succ, zero_add, add_zero, mul_one, zero_mul, m2, m3, m4]
    refine plan_p rfl rfl (pr_idx_Sl (OwnC.sl hH 5 rfl hO57) rfl rfl Try.underlying27 sz5 (by first | omega | (first | exact Nat.lt_trans (u64_mod_k _ _ _ (ofNat_toNat64 ((bl.take (min bl.length 120)).length + 16 + (al.take (min al.length 120)).length) (by omega)) (by omega)) (by omega) | (simp only [List.length_set, sealedL_len]; omega) | (simp; omega) | simp))) ?_
    try simp only [n0, n1, n2, n3, getD_cons_zero, getD_cons_succ, set_cons_zero, set_cons_succ, zero_add, add_zero, mul_one, zero_mul, m2, m3, m4]
    refine plan_storeO 5 rfl rfl hH rfl rfl hO57 rfl sz5 (by first | omega | (first | exact Nat.lt_trans (u64_mod_k _ _ _ (ofNat_toNat64 ((bl.take (min bl.length 120)).length + 16 + (al.take (min al.length 120)).length) (by omega)) (by omega)) (by omega) | (simp only [List.length_set, sealedL_len]; omega) | (simp; omega) | simp)) ?_
    clear hH
    intro cs69 w68 hO70 hH
    try simp only [n0, n1, n2, n3, getD_cons_zero, getD_cons_succ, set_cons_zero, set_cons_succ, zero_add, add_zero, mul_one, zero_mul, m2, m3, m4, m5, m6, m7, Value.cells, arr8_set, arr32_set, arr64_set, arrB_set] at hH ⊢
    refine plan_nil hH ?_
    clear hH
    intro w71 hH
    refine hK64 _ _ ?_
    try clear hK64 K64
    refine wp_seq_k ?_
    intro K72 hK72
    refine wp_region_text [.p 0, .p 1, .p 2, .p 3, .x 4, .p 5, .p 6, .p 7, .p 8, .p 9] rfl ?_
    refine plan_p rfl rfl pr_move ?_
    try simp only [n0, n1, n2, n3, getD_cons_zero, getD_cons_succ, set_cons_zero, set_cons_succ, zero_add, add_zero, mul_one, zero_mul, m2, m3, m4]
    refine plan_p rfl rfl pr_move ?_
    try simp only [n0, n1, n2, n3, getD_cons_zero, getD_cons_succ, set_cons_zero, set_cons_succ, zero_add, add_zero, mul_one, zero_mul, m2, m3, m4]
    refine plan_p rfl rfl pr_move ?_
    try simp only [n0, n1, n2, n3, getD_cons_zero, getD_cons_succ, set_cons_zero, set_cons_succ, zero_add, add_zero, mul_one, zero_mul, m2, m3, m4]
    refine plan_p rfl rfl pr_move ?_
    try simp only [n0, n1, n2, n3, getD_cons_zero, getD_cons_succ, set_cons_zero, set_cons_succ, zero_add, add_zero, mul_one, zero_mul, m2, m3, m4]
    refine plan_callx rfl rfl hH cf32 (fun w' hH => Open_calls _ _ _ (hP _) _ _ _ _ _ _ w' (hH.blk 2 rfl) (hH.blk 1 rfl) (Sl.cuth (OwnC.sl hH 3 rfl hO28) (by first | omega | (first | exact Nat.lt_trans (u64_mod_k _ _ _ (ofNat_toNat64 ((bl.take (min bl.length 120)).length + 16 + (al.take (min al.length 120)).length) (by omega)) (by omega)) (by omega) | (simp only [List.length_set, sealedL_len]; omega) | (simp; omega) | simp))) (nonceL_len nl) (OwnC.sl hH 4 rfl hO42) (OwnC.sl hH 5 rfl hO70) (by simp only [List.length_set, sealedL_len]; omega) (by simp only [List.length_set, sealedL_len]; omega) he2) rfl (fun _ _ _ h => by obtain ⟨_, _, _, _, hg, _⟩ := h; exact hg) ?_
    clear hH
    intro w73 v74 w75 hH hp76
    obtain ⟨o77, cap78, cs79, rfl, hg, hO80, hfr⟩ := hp76
    replace hH := hH.callown hg hfr
    clear hg hfr
    try simp only [n0, n1, n2, n3, getD_cons_zero, getD_cons_succ, set_cons_zero, set_cons_succ, zero_add, add_zero, mul_one, zero_mul, m2, m3, m4, m5, m6, m7, Value.cells, arr8_set, arr32_set, arr64_set, arrB_set] at hH ⊢
    try simp only [n0, n1, n2, n3, getD_cons_zero, getD_cons_succ, set_cons_zero, set_cons_succ, zero_add, add_zero, mul_one, zero_mul, m2, m3, m4]
    refine plan_p rfl rfl pr_move ?_
    try simp only [n0, n1, n2, n3, getD_cons_zero, getD_cons_succ, set_cons_zero, set_cons_succ, zero_add, add_zero, mul_one, zero_mul, m2, m3, m4]
    refine plan_p rfl rfl (pr_extract rfl rfl) ?_
    try simp only [n0, n1, n2, n3, getD_cons_zero, getD_cons_succ, set_cons_zero, set_cons_succ, zero_add, add_zero, mul_one, zero_mul, m2, m3, m4]
    refine plan_p rfl rfl (pr_extract rfl rfl) ?_
    try simp only [n0, n1, n2, n3, getD_cons_zero, getD_cons_succ, set_cons_zero, set_cons_succ, zero_add, add_zero, mul_one, zero_mul, m2, m3, m4]
    refine plan_p rfl rfl pr_assign ?_
    try simp only [n0, n1, n2, n3, getD_cons_zero, getD_cons_succ, set_cons_zero, set_cons_succ, zero_add, add_zero, mul_one, zero_mul, m2, m3, m4]
    refine plan_p rfl rfl pr_assign ?_
    try simp only [n0, n1, n2, n3, getD_cons_zero, getD_cons_succ, set_cons_zero, set_cons_succ, zero_add, add_zero, mul_one, zero_mul, m2, m3, m4]
    refine plan_nil hH ?_
    clear hH
    intro w81 hH
    refine hK72 _ _ ?_
    try clear hK72 K72
    refine wp_seq_k ?_
    intro K82 hK82
    refine wp_seq_k ?_
    intro K83 hK83
    refine wp_region_text [.p 0, .p 1] rfl ?_
    refine plan_p rfl rfl pr_move ?_
    try simp only [n0, n1, n2, n3, getD_cons_zero, getD_cons_succ, set_cons_zero, set_cons_succ, zero_add, add_zero, mul_one, zero_mul, m2, m3, m4]
    refine plan_p rfl rfl (pr_bin rfl rfl (bin_eql_u8 _ 0)) ?_
    try simp only [n0, n1, n2, n3, getD_cons_zero, getD_cons_succ, set_cons_zero, set_cons_succ, zero_add, add_zero, mul_one, zero_mul, m2, m3, m4]
    refine plan_nil hH ?_
    clear hH
    intro w84 hH
    refine hK83 _ _ ?_
    try clear hK83 K83
    refine wp_cond_false (by show BV _ = _; rw [beq_eq_false_iff_ne.2 hx]) ?_
    refine wp_skip ?_
    refine hK82 _ _ ?_
    try clear hK82 K82
    refine wp_seq_k ?_
    intro K85 hK85
    refine wp_region_text [.p 0, .p 1, .p 2, .p 3, .p 4, .p 5, .p 6, .p 7, .p 8, .q 9, .q 10, .p 11, .p 12] rfl ?_
    refine plan_p rfl rfl pr_move ?_
    try simp only [n0, n1, n2, n3, getD_cons_zero, getD_cons_succ, set_cons_zero, set_cons_succ, zero_add, add_zero, mul_one, zero_mul, m2, m3, m4]
    refine plan_p rfl rfl (pr_bin rfl rfl (by first | exact bin_eql_n (n := 4)  | exact bin_eql_i)) ?_
    try simp only [n0, n1, n2, n3, getD_cons_zero, getD_cons_succ, set_cons_zero, set_cons_succ, zero_add, add_zero, mul_one, zero_mul, m2, m3, m4]
    refine plan_p (v := BV false) rfl rfl (pr_move_v rfl) ?_
    try simp only [n0, n1, n2, n3, getD_cons_zero, getD_cons_succ, set_cons_zero, set_cons_succ, zero_add, add_zero, mul_one, zero_mul, m2, m3, m4]
    refine plan_ps rfl rfl ?_
    try simp only [n0, n1, n2, n3, getD_cons_zero, getD_cons_succ, set_cons_zero, set_cons_succ, zero_add, add_zero, mul_one, zero_mul, m2, m3, m4]
    refine plan_ps rfl rfl ?_
    try simp only [n0, n1, n2, n3, getD_cons_zero, getD_cons_succ, set_cons_zero, set_cons_succ, zero_add, add_zero, mul_one, zero_mul, m2, m3, m4]
    refine plan_ps rfl rfl ?_
    try simp only [n0, n1, n2, n3, getD_cons_zero, getD_cons_succ, set_cons_zero, set_cons_succ, zero_add, add_zero, mul_one, zero_mul, m2, m3, m4]
    refine plan_p rfl rfl (pr_pick_f rfl) ?_
    try simp only [n0, n1, n2, n3, getD_cons_zero, getD_cons_succ, set_cons_zero, set_cons_succ, zero_add, add_zero, mul_one, zero_mul, m2, m3, m4]
    refine plan_p (v := BV false) rfl rfl (pr_move_v rfl) ?_
    try simp only [n0, n1, n2, n3, getD_cons_zero, getD_cons_succ, set_cons_zero, set_cons_succ, zero_add, add_zero, mul_one, zero_mul, m2, m3, m4]
    refine plan_p rfl rfl (pr_fieldAddr 0 rfl Try.underlying48 rfl rfl sz22) ?_
    try simp only [n0, n1, n2, n3, getD_cons_zero, getD_cons_succ, set_cons_zero, set_cons_succ, zero_add, add_zero, mul_one, zero_mul, m2, m3, m4]
    refine plan_q rfl rfl (qr_loadE _ rfl (hH.blk 0 rfl) Try.underlying22 rfl sz22 (by rw [letterC_size]; omega) letterC_ext) ?_
    try simp only [n0, n1, n2, n3, getD_cons_zero, getD_cons_succ, set_cons_zero, set_cons_succ, zero_add, add_zero, mul_one, zero_mul, m2, m3, m4]
    refine plan_q rfl rfl (qr_call cf33 (fun w' hw => zero_calls f w' hz) rfl) ?_
    try simp only [n0, n1, n2, n3, getD_cons_zero, getD_cons_succ, set_cons_zero, set_cons_succ, zero_add, add_zero, mul_one, zero_mul, m2, m3, m4]
    refine plan_p rfl rfl (pr_pick_f rfl) ?_
    try simp only [n0, n1, n2, n3, getD_cons_zero, getD_cons_succ, set_cons_zero, set_cons_succ, zero_add, add_zero, mul_one, zero_mul, m2, m3, m4]
    refine plan_p rfl rfl pr_assign ?_
    try simp only [n0, n1, n2, n3, getD_cons_zero, getD_cons_succ, set_cons_zero, set_cons_succ, zero_add, add_zero, mul_one, zero_mul, m2, m3, m4]
    refine plan_nil hH ?_
    clear hH
    intro w86 hH
    refine hK85 _ _ ?_
    try clear hK85 K85
    refine wp_ret ?_
    try simp only [Exit.then, Exit.inBlock, ↓reduceIte, Nat.reduceEqDiff]
    refine BP.ret1 rfl rfl ?_
    exact ⟨rfl, hH.chg⟩
  ·
    try simp only [decide_eq_true_eq, decide_eq_false_iff_not, beq_iff_eq, bne_iff_ne, beq_eq_false_iff_ne, ne_eq, Bool.not_eq_true', Bool.not_eq_false', bne_eq_false_iff_eq, Nat.not_lt, Nat.not_le, gt_iff_lt, ge_iff_le] at hc67
    have hkc : ¬ k < (sealedL (kexp fun i => ((List.range 16).map fun i => f i).getD i 0) (hP (kexp fun i => ((List.range 16).map fun i => f i).getD i 0)) (nonceL nl) (al.take (min al.length 120)) (bl.take (min bl.length 120))).length := by rw [sealedL_len]; omega
    have he2 : sealL (kexp fun i => ((List.range 16).map fun i => f i).getD i 0) (hP (kexp fun i => ((List.range 16).map fun i => f i).getD i 0)) (nonceL nl) ((al.take (min al.length 120)).set (k - ((bl.take (min bl.length 120)).length + 16)) ((al.take (min al.length 120)).getD (k - ((bl.take (min bl.length 120)).length + 16)) 0 ^^^ x)) ((sealedL (kexp fun i => ((List.range 16).map fun i => f i).getD i 0) (hP (kexp fun i => ((List.range 16).map fun i => f i).getD i 0)) (nonceL nl) (al.take (min al.length 120)) (bl.take (min bl.length 120))).take ((sealedL (kexp fun i => ((List.range 16).map fun i => f i).getD i 0) (hP (kexp fun i => ((List.range 16).map fun i => f i).getD i 0)) (nonceL nl) (al.take (min al.length 120)) (bl.take (min bl.length 120))).length - 16)) = (sealedL (kexp fun i => ((List.range 16).map fun i => f i).getD i 0) (hP (kexp fun i => ((List.range 16).map fun i => f i).getD i 0)) (nonceL nl) (al.take (min al.length 120)) (bl.take (min bl.length 120))).drop ((sealedL (kexp fun i => ((List.range 16).map fun i => f i).getD i 0) (hP (kexp fun i => ((List.range 16).map fun i => f i).getD i 0)) (nonceL nl) (al.take (min al.length 120)) (bl.take (min bl.length 120))).length - 16) := by
      have := he
      unfold toldEq spoC spoS at this
      simp only [if_neg hkc] at this
      rw [show k - (sealedL (kexp fun i => ((List.range 16).map fun i => f i).getD i 0) (hP (kexp fun i => ((List.range 16).map fun i => f i).getD i 0)) (nonceL nl) (al.take (min al.length 120)) (bl.take (min bl.length 120))).length = k - ((bl.take (min bl.length 120)).length + 16) by rw [sealedL_len]] at this
      exact this
    refine wp_region_text [.p 0, .p 1, .p 2, .p 3, .p 4, .p 5, .p 6, .p 7, .p 8, .p 9, .p 10, .q 11, .p 12, .p 13, .p 14, .e 15] rfl ?_
    refine plan_p rfl rfl pr_move ?_
    try simp only [n0, n1, n2, n3, getD_cons_zero, getD_cons_succ, set_cons_zero, set_cons_succ, zero_add, add_zero, mul_one, zero_mul, m2, m3, m4]
    refine plan_p rfl rfl pr_move ?_
    try simp only [n0, n1, n2, n3, getD_cons_zero, getD_cons_succ, set_cons_zero, set_cons_succ, zero_add, add_zero, mul_one, zero_mul, m2, m3, m4]
    refine plan_p rfl rfl pr_move ?_
    try simp only [n0, n1, n2, n3, getD_cons_zero, getD_cons_succ, set_cons_zero, set_cons_succ, zero_add, add_zero, mul_one, zero_mul, m2, m3, m4]
    refine plan_p rfl rfl (pr_len_sl rfl Try.underlying27) ?_
    try simp only [n0, n1, n2, n3, getD_cons_zero, getD_cons_succ, set_cons_zero, set_cons_succ, zero_add, add_zero, mul_one, zero_mul, m2, m3, m4]
    refine plan_p rfl rfl (pr_bin rfl rfl (by first | exact bin_sub_n (by first | omega | (first | exact Nat.lt_trans (u64_mod_k _ _ _ (ofNat_toNat64 ((bl.take (min bl.length 120)).length + 16 + (al.take (min al.length 120)).length) (by omega)) (by omega)) (by omega) | (simp only [List.length_set, sealedL_len]; omega) | (simp; omega) | simp)) (by first | omega | (first | exact Nat.lt_trans (u64_mod_k _ _ _ (ofNat_toNat64 ((bl.take (min bl.length 120)).length + 16 + (al.take (min al.length 120)).length) (by omega)) (by omega)) (by omega) | (simp only [List.length_set, sealedL_len]; omega) | (simp; omega) | simp)) | exact bin_sub_i (by first | omega | (first | exact Nat.lt_trans (u64_mod_k _ _ _ (ofNat_toNat64 ((bl.take (min bl.length 120)).length + 16 + (al.take (min al.length 120)).length) (by omega)) (by omega)) (by omega) | (simp only [List.length_set, sealedL_len]; omega) | (simp; omega) | simp)) (by first | omega | (first | exact Nat.lt_trans (u64_mod_k _ _ _ (ofNat_toNat64 ((bl.take (min bl.length 120)).length + 16 + (al.take (min al.length 120)).length) (by omega)) (by omega)) (by omega) | (simp only [List.length_set, sealedL_len]; omega) | (simp; omega) | simp)))) ?_
    try simp only [n0, n1, n2, n3, getD_cons_zero, getD_cons_succ, set_cons_zero, set_cons_succ, zero_add, add_zero, mul_one, zero_mul, m2, m3, m4]
    refine plan_p rfl rfl pr_move ?_
    try simp only [n0, n1, n2, n3, getD_cons_zero, getD_cons_succ, set_cons_zero, set_cons_succ, zero_add, add_zero, mul_one, zero_mul, m2, m3, m4]
    refine plan_p rfl rfl pr_move ?_
    try simp only [n0, n1, n2, n3, getD_cons_zero, getD_cons_succ, set_cons_zero, set_cons_succ, zero_add, add_zero, mul_one, zero_mul, m2, m3, m4]
    refine plan_p rfl rfl pr_move ?_
    try simp only [n0, n1, n2, n3, getD_cons_zero, getD_cons_succ, set_cons_zero, set_cons_succ, zero_add, add_zero, mul_one, zero_mul, m2, m3, m4]
    refine plan_p rfl rfl (pr_len_sl rfl Try.underlying27) ?_
    try simp only [n0, n1, n2, n3, getD_cons_zero, getD_cons_succ, set_cons_zero, set_cons_succ, zero_add, add_zero, mul_one, zero_mul, m2, m3, m4]
    refine plan_p rfl rfl (pr_bin rfl rfl (by first | exact bin_sub_n (by first | omega | (first | exact Nat.lt_trans (u64_mod_k _ _ _ (ofNat_toNat64 ((bl.take (min bl.length 120)).length + 16 + (al.take (min al.length 120)).length) (by omega)) (by omega)) (by omega) | (simp only [List.length_set, sealedL_len]; omega) | (simp; omega) | simp)) (by first | omega | (first | exact Nat.lt_trans (u64_mod_k _ _ _ (ofNat_toNat64 ((bl.take (min bl.length 120)).length + 16 + (al.take (min al.length 120)).length) (by omega)) (by omega)) (by omega) | (simp only [List.length_set, sealedL_len]; omega) | (simp; omega) | simp)) | exact bin_sub_i (by first | omega | (first | exact Nat.lt_trans (u64_mod_k _ _ _ (ofNat_toNat64 ((bl.take (min bl.length 120)).length + 16 + (al.take (min al.length 120)).length) (by omega)) (by omega)) (by omega) | (simp only [List.length_set, sealedL_len]; omega) | (simp; omega) | simp)) (by first | omega | (first | exact Nat.lt_trans (u64_mod_k _ _ _ (ofNat_toNat64 ((bl.take (min bl.length 120)).length + 16 + (al.take (min al.length 120)).length) (by omega)) (by omega)) (by omega) | (simp only [List.length_set, sealedL_len]; omega) | (simp; omega) | simp)))) ?_
    try simp only [n0, n1, n2, n3, getD_cons_zero, getD_cons_succ, set_cons_zero, set_cons_succ, zero_add, add_zero, mul_one, zero_mul, m2, m3, m4]
    refine plan_p rfl rfl (pr_idx_Sl (OwnC.sl hH 4 rfl hO42) rfl rfl Try.underlying27 sz5 (by first | omega | (first | exact Nat.lt_trans (u64_mod_k _ _ _ (ofNat_toNat64 ((bl.take (min bl.length 120)).length + 16 + (al.take (min al.length 120)).length) (by omega)) (by omega)) (by omega) | (simp only [List.length_set, sealedL_len]; omega) | (simp; omega) | simp))) ?_
    try simp only [n0, n1, n2, n3, getD_cons_zero, getD_cons_succ, set_cons_zero, set_cons_succ, zero_add, add_zero, mul_one, zero_mul, m2, m3, m4]
    refine plan_q rfl rfl (qr_load1 rfl Try.underlying5 rfl (Sl.cell (OwnC.sl hH 4 rfl hO42) (by first | omega | (first | exact Nat.lt_trans (u64_mod_k _ _ _ (ofNat_toNat64 ((bl.take (min bl.length 120)).length + 16 + (al.take (min al.length 120)).length) (by omega)) (by omega)) (by omega) | (simp only [List.length_set, sealedL_len]; omega) | (simp; omega) | simp)))) ?_
    try simp only [n0, n1, n2, n3, getD_cons_zero, getD_cons_succ, set_cons_zero, set_cons_succ, zero_add, add_zero, mul_one, zero_mul, m2, m3, m4]
    refine plan_p rfl rfl pr_move ?_
    try simp only [n0, n1, n2, n3, getD_cons_zero, getD_cons_succ, set_cons_zero, set_cons_succ, zero_add, add_zero, mul_one, zero_mul, m2, m3, m4]
    refine plan_p rfl rfl (pr_bin rfl rfl (bin_xor_u8 _ _)) ?_
    try simp only [n0, n1, n2, n3, getD_cons_zero, getD_cons_succ, set_cons_zero, set_cons_succ, zero_add, add_zero, mul_one, zero_mul, m2, m3, m4]
    refine plan_p rfl rfl (pr_idx_Sl (OwnC.sl hH 4 rfl hO42) rfl rfl Try.underlying27 sz5 (by first | omega | (first | exact Nat.lt_trans (u64_mod_k _ _ _ (ofNat_toNat64 ((bl.take (min bl.length 120)).length + 16 + (al.take (min al.length 120)).length) (by omega)) (by omega)) (by omega) | (simp only [List.length_set, sealedL_len]; omega) | (simp; omega) | simp))) ?_
    try simp only [n0, n1, n2, n3, getD_cons_zero, getD_cons_succ, set_cons_zero, set_cons_succ, zero_add, add_zero, mul_one, zero_mul, m2, m3, m4]
    refine plan_storeO 4 rfl rfl hH rfl rfl hO42 rfl sz5 (by first | omega | (first | exact Nat.lt_trans (u64_mod_k _ _ _ (ofNat_toNat64 ((bl.take (min bl.length 120)).length + 16 + (al.take (min al.length 120)).length) (by omega)) (by omega)) (by omega) | (simp only [List.length_set, sealedL_len]; omega) | (simp; omega) | simp)) ?_
    clear hH
    intro cs88 w87 hO89 hH
    try simp only [n0, n1, n2, n3, getD_cons_zero, getD_cons_succ, set_cons_zero, set_cons_succ, zero_add, add_zero, mul_one, zero_mul, m2, m3, m4, m5, m6, m7, Value.cells, arr8_set, arr32_set, arr64_set, arrB_set] at hH ⊢
    refine plan_nil hH ?_
    clear hH
    intro w90 hH
    refine hK64 _ _ ?_
    try clear hK64 K64
    refine wp_seq_k ?_
    intro K91 hK91
    refine wp_region_text [.p 0, .p 1, .p 2, .p 3, .x 4, .p 5, .p 6, .p 7, .p 8, .p 9] rfl ?_
    refine plan_p rfl rfl pr_move ?_
    try simp only [n0, n1, n2, n3, getD_cons_zero, getD_cons_succ, set_cons_zero, set_cons_succ, zero_add, add_zero, mul_one, zero_mul, m2, m3, m4]
    refine plan_p rfl rfl pr_move ?_
    try simp only [n0, n1, n2, n3, getD_cons_zero, getD_cons_succ, set_cons_zero, set_cons_succ, zero_add, add_zero, mul_one, zero_mul, m2, m3, m4]
    refine plan_p rfl rfl pr_move ?_
    try simp only [n0, n1, n2, n3, getD_cons_zero, getD_cons_succ, set_cons_zero, set_cons_succ, zero_add, add_zero, mul_one, zero_mul, m2, m3, m4]
    refine plan_p rfl rfl pr_move ?_
    try simp only [n0, n1, n2, n3, getD_cons_zero, getD_cons_succ, set_cons_zero, set_cons_succ, zero_add, add_zero, mul_one, zero_mul, m2, m3, m4]
    refine plan_callx rfl rfl hH cf32 (fun w' hH => Open_calls _ _ _ (hP _) _ _ _ _ _ _ w' (hH.blk 2 rfl) (hH.blk 1 rfl) (Sl.cuth (OwnC.sl hH 3 rfl hO28) (by first | omega | (first | exact Nat.lt_trans (u64_mod_k _ _ _ (ofNat_toNat64 ((bl.take (min bl.length 120)).length + 16 + (al.take (min al.length 120)).length) (by omega)) (by omega)) (by omega) | (simp only [List.length_set, sealedL_len]; omega) | (simp; omega) | simp))) (nonceL_len nl) (OwnC.sl hH 4 rfl hO89) (OwnC.sl hH 5 rfl hO57) (by simp only [List.length_set, sealedL_len]; omega) (by simp only [List.length_set, sealedL_len]; omega) he2) rfl (fun _ _ _ h => by obtain ⟨_, _, _, _, hg, _⟩ := h; exact hg) ?_
    clear hH
    intro w92 v93 w94 hH hp95
    obtain ⟨o96, cap97, cs98, rfl, hg, hO99, hfr⟩ := hp95
    replace hH := hH.callown hg hfr
    clear hg hfr
    try simp only [n0, n1, n2, n3, getD_cons_zero, getD_cons_succ, set_cons_zero, set_cons_succ, zero_add, add_zero, mul_one, zero_mul, m2, m3, m4, m5, m6, m7, Value.cells, arr8_set, arr32_set, arr64_set, arrB_set] at hH ⊢
    try simp only [n0, n1, n2, n3, getD_cons_zero, getD_cons_succ, set_cons_zero, set_cons_succ, zero_add, add_zero, mul_one, zero_mul, m2, m3, m4]
    refine plan_p rfl rfl pr_move ?_
    try simp only [n0, n1, n2, n3, getD_cons_zero, getD_cons_succ, set_cons_zero, set_cons_succ, zero_add, add_zero, mul_one, zero_mul, m2, m3, m4]
    refine plan_p rfl rfl (pr_extract rfl rfl) ?_
    try simp only [n0, n1, n2, n3, getD_cons_zero, getD_cons_succ, set_cons_zero, set_cons_succ, zero_add, add_zero, mul_one, zero_mul, m2, m3, m4]
    refine plan_p rfl rfl (pr_extract rfl rfl) ?_
    try simp only [n0, n1, n2, n3, getD_cons_zero, getD_cons_succ, set_cons_zero, set_cons_succ, zero_add, add_zero, mul_one, zero_mul, m2, m3, m4]
    refine plan_p rfl rfl pr_assign ?_
    try simp only [n0, n1, n2, n3, getD_cons_zero, getD_cons_succ, set_cons_zero, set_cons_succ, zero_add, add_zero, mul_one, zero_mul, m2, m3, m4]
    refine plan_p rfl rfl pr_assign ?_
    try simp only [n0, n1, n2, n3, getD_cons_zero, getD_cons_succ, set_cons_zero, set_cons_succ, zero_add, add_zero, mul_one, zero_mul, m2, m3, m4]
    refine plan_nil hH ?_
    clear hH
    intro w100 hH
    refine hK91 _ _ ?_
    try clear hK91 K91
    refine wp_seq_k ?_
    intro K101 hK101
    refine wp_seq_k ?_
    intro K102 hK102
    refine wp_region_text [.p 0, .p 1] rfl ?_
    refine plan_p rfl rfl pr_move ?_
    try simp only [n0, n1, n2, n3, getD_cons_zero, getD_cons_succ, set_cons_zero, set_cons_succ, zero_add, add_zero, mul_one, zero_mul, m2, m3, m4]
    refine plan_p rfl rfl (pr_bin rfl rfl (bin_eql_u8 _ 0)) ?_
    try simp only [n0, n1, n2, n3, getD_cons_zero, getD_cons_succ, set_cons_zero, set_cons_succ, zero_add, add_zero, mul_one, zero_mul, m2, m3, m4]
    refine plan_nil hH ?_
    clear hH
    intro w103 hH
    refine hK102 _ _ ?_
    try clear hK102 K102
    refine wp_cond_false (by show BV _ = _; rw [beq_eq_false_iff_ne.2 hx]) ?_
    refine wp_skip ?_
    refine hK101 _ _ ?_
    try clear hK101 K101
    refine wp_seq_k ?_
    intro K104 hK104
    refine wp_region_text [.p 0, .p 1, .p 2, .p 3, .p 4, .p 5, .p 6, .p 7, .p 8, .q 9, .q 10, .p 11, .p 12] rfl ?_
    refine plan_p rfl rfl pr_move ?_
    try simp only [n0, n1, n2, n3, getD_cons_zero, getD_cons_succ, set_cons_zero, set_cons_succ, zero_add, add_zero, mul_one, zero_mul, m2, m3, m4]
    refine plan_p rfl rfl (pr_bin rfl rfl (by first | exact bin_eql_n (n := 4)  | exact bin_eql_i)) ?_
    try simp only [n0, n1, n2, n3, getD_cons_zero, getD_cons_succ, set_cons_zero, set_cons_succ, zero_add, add_zero, mul_one, zero_mul, m2, m3, m4]
    refine plan_p (v := BV false) rfl rfl (pr_move_v rfl) ?_
    try simp only [n0, n1, n2, n3, getD_cons_zero, getD_cons_succ, set_cons_zero, set_cons_succ, zero_add, add_zero, mul_one, zero_mul, m2, m3, m4]
    refine plan_ps rfl rfl ?_
    try simp only [n0, n1, n2, n3, getD_cons_zero, getD_cons_succ, set_cons_zero, set_cons_succ, zero_add, add_zero, mul_one, zero_mul, m2, m3, m4]
    refine plan_ps rfl rfl ?_
    try simp only [n0, n1, n2, n3, getD_cons_zero, getD_cons_succ, set_cons_zero, set_cons_succ, zero_add, add_zero, mul_one, zero_mul, m2, m3, m4]
    refine plan_ps rfl rfl ?_
    try simp only [n0, n1, n2, n3, getD_cons_zero, getD_cons_succ, set_cons_zero, set_cons_succ, zero_add, add_zero, mul_one, zero_mul, m2, m3, m4]
    refine plan_p rfl rfl (pr_pick_f rfl) ?_
    try simp only [n0, n1, n2, n3, getD_cons_zero, getD_cons_succ, set_cons_zero, set_cons_succ, zero_add, add_zero, mul_one, zero_mul, m2, m3, m4]
    refine plan_p (v := BV false) rfl rfl (pr_move_v rfl) ?_
    try simp only [n0, n1, n2, n3, getD_cons_zero, getD_cons_succ, set_cons_zero, set_cons_succ, zero_add, add_zero, mul_one, zero_mul, m2, m3, m4]
    refine plan_p rfl rfl (pr_fieldAddr 0 rfl Try.underlying48 rfl rfl sz22) ?_
    try simp only [n0, n1, n2, n3, getD_cons_zero, getD_cons_succ, set_cons_zero, set_cons_succ, zero_add, add_zero, mul_one, zero_mul, m2, m3, m4]
    refine plan_q rfl rfl (qr_loadE _ rfl (hH.blk 0 rfl) Try.underlying22 rfl sz22 (by rw [letterC_size]; omega) letterC_ext) ?_
    try simp only [n0, n1, n2, n3, getD_cons_zero, getD_cons_succ, set_cons_zero, set_cons_succ, zero_add, add_zero, mul_one, zero_mul, m2, m3, m4]
    refine plan_q rfl rfl (qr_call cf33 (fun w' hw => zero_calls f w' hz) rfl) ?_
    try simp only [n0, n1, n2, n3, getD_cons_zero, getD_cons_succ, set_cons_zero, set_cons_succ, zero_add, add_zero, mul_one, zero_mul, m2, m3, m4]
    refine plan_p rfl rfl (pr_pick_f rfl) ?_
    try simp only [n0, n1, n2, n3, getD_cons_zero, getD_cons_succ, set_cons_zero, set_cons_succ, zero_add, add_zero, mul_one, zero_mul, m2, m3, m4]
    refine plan_p rfl rfl pr_assign ?_
    try simp only [n0, n1, n2, n3, getD_cons_zero, getD_cons_succ, set_cons_zero, set_cons_succ, zero_add, add_zero, mul_one, zero_mul, m2, m3, m4]
    refine plan_nil hH ?_
    clear hH
    intro w105 hH
    refine hK104 _ _ ?_
    try clear hK104 K104
    refine wp_ret ?_
    try simp only [Exit.then, Exit.inBlock, ↓reduceIte, Nat.reduceEqDiff]
    refine BP.ret1 rfl rfl ?_
    exact ⟨rfl, hH.chg⟩

theorem gcmspoilt_calls (f : Nat → UInt8) (nv av bv : Value) (nl al bl : List UInt8) (n : Int) (x : UInt8) (w : World) (hn : Sl w nv nl) (ha : Sl w av al) (hb : Sl w bv bl) (hnl : nl.length ≤ reachBytes) : Ret Try.prog 13 #[.agg (letterC f nv av bv), I64 n, V8 x] w fun v w' => v = BV true ∧ Chg [] w w' := by
  have hcut : (bl.take (min bl.length 120)).length ≤ 120 := by simp; omega
  have hcuta : (al.take (min al.length 120)).length ≤ 120 := by simp; omega
  generalize hk : (UInt64.ofNat (n % 18446744073709551616).toNat % UInt64.ofNat ((bl.take (min bl.length 120)).length + 16 + (al.take (min al.length 120)).length)).toNat = k
  have hkl : k < ((bl.take (min bl.length 120)).length + 16 + (al.take (min al.length 120)).length) := by rw [← hk]; exact u64_mod_k _ _ _ (ofNat_toNat64 _ (by omega)) (by omega)
  by_cases hx : x = 0
  · exact spoilt_none f nv av bv nl al bl n x k w hn ha hb hnl hk hkl hx (by subst hx; exact spo_same _ _ _ _ _ _)
  · by_cases he : toldEq (kexp fun i => ((List.range 16).map fun i => f i).getD i 0) (hP (kexp fun i => ((List.range 16).map fun i => f i).getD i 0)) (nonceL nl) (sealedL (kexp fun i => ((List.range 16).map fun i => f i).getD i 0) (hP (kexp fun i => ((List.range 16).map fun i => f i).getD i 0)) (nonceL nl) (al.take (min al.length 120)) (bl.take (min bl.length 120))) (al.take (min al.length 120)) k x
    · exact spoilt_right f nv av bv nl al bl n x k w hn ha hb hnl hk hkl hx he (spoilt_law (by rw [sealedL_len]; exact hkl) hx he)
    · exact spoilt_wrong f nv av bv nl al bl n x k w hn ha hb hnl hk hkl hx he

end Go.Proofs.Ytjbohfonjalfnaa
