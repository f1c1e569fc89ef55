/- The walk of the law GcmOpen. No conditions. -/
import Derived.Test.YtjbohfonjalfnaaGcmH
import Derived.Test.YtjbohfonjalfnaaFork
set_option linter.unusedSimpArgs false
set_option linter.unusedVariables false
set_option maxRecDepth 100000
set_option maxHeartbeats 4000000
namespace Go.Proofs.Ytjbohfonjalfnaa
open Go
open List (getD_cons_zero getD_cons_succ set_cons_zero set_cons_succ)
open Nat (zero_add add_zero mul_one zero_mul)

theorem gcmopen_calls (f : Nat → UInt8) (nv av bv : Value) (nl al bl : List UInt8) (w : World) (hn : Sl w nv nl) (ha : Sl w av al) (hb : Sl w bv bl) (hnl : nl.length ≤ reachBytes) : Ret Try.prog 12 #[.agg (letterC f nv av bv)] w fun v w' => v = BV true ∧ Chg [] w w' := by
  have hr : reachBytes = 140737488351232 := rfl
  refine Ret.enter Try.func12 rfl ?_
  simp only [Try.ntmps12, List.size_toArray, List.length_cons, List.length_nil, Nat.reduceAdd, Nat.reduceSub, frame_enter, List.replicate_succ, List.replicate_zero, List.nil_append, List.cons_append]
  have hH := Hp.start [] w
  refine wp_seq_k ?_
  intro K1 hK1
  refine wp_region_text [.x 0, .p 1] rfl ?_
  refine plan_box rfl rfl hH rfl ?_
  clear hH
  intro b2 w3 hH
  try simp only [n0, n1, n2, n3, getD_cons_zero, getD_cons_succ, set_cons_zero, set_cons_succ, zero_add, add_zero, mul_one, zero_mul, m2, m3, m4, m5, m6, m7, Value.cells, arr8_set, arr32_set, arr64_set, arrB_set] at hH ⊢
  refine plan_p rfl rfl pr_assign ?_
  try simp only [n0, n1, n2, n3, getD_cons_zero, getD_cons_succ, set_cons_zero, set_cons_succ, zero_add, add_zero, mul_one, zero_mul, m2, m3, m4]
  refine plan_nil hH ?_
  clear hH
  intro w4 hH
  refine hK1 _ _ ?_
  try clear hK1 K1
  refine wp_seq_k ?_
  intro K5 hK5
  refine wp_region_text [.p 0, .p 1, .x 2, .p 3, .p 4, .p 5, .p 6, .p 7] rfl ?_
  refine plan_p rfl rfl (pr_fieldAddr 0 rfl Try.underlying48 rfl rfl sz22) ?_
  try simp only [n0, n1, n2, n3, getD_cons_zero, getD_cons_succ, set_cons_zero, set_cons_succ, zero_add, add_zero, mul_one, zero_mul, m2, m3, m4]
  refine plan_p rfl rfl (pr_slice_arr_all rfl Try.underlying22 sz5) ?_
  try simp only [n0, n1, n2, n3, getD_cons_zero, getD_cons_succ, set_cons_zero, set_cons_succ, zero_add, add_zero, mul_one, zero_mul, m2, m3, m4]
  try simp only [Nat.mul_one, Nat.zero_add, Nat.add_sub_cancel_left]
  refine plan_callx rfl rfl hH cf23 (fun w' hH => gnew_calls _ _ w' (letter_key (hH.blk 0 rfl)) (by simp)) rfl (fun _ _ _ h => by obtain ⟨_, _, _, hg, _⟩ := h; exact hg) ?_
  clear hH
  intro w6 v7 w8 hH hp9
  obtain ⟨b10, b11, rfl, hg, hfc, hbc, hfx, hbx, hne⟩ := hp9
  replace hH := hH.callnew2 hg hbc hfc hbx hfx hne
  clear hg hfc hbc hfx hbx hne
  try simp only [n0, n1, n2, n3, getD_cons_zero, getD_cons_succ, set_cons_zero, set_cons_succ, zero_add, add_zero, mul_one, zero_mul, m2, m3, m4, m5, m6, m7, Value.cells, arr8_set, arr32_set, arr64_set, arrB_set] at hH ⊢
  try simp only [n0, n1, n2, n3, getD_cons_zero, getD_cons_succ, set_cons_zero, set_cons_succ, zero_add, add_zero, mul_one, zero_mul, m2, m3, m4]
  refine plan_p rfl rfl pr_move ?_
  try simp only [n0, n1, n2, n3, getD_cons_zero, getD_cons_succ, set_cons_zero, set_cons_succ, zero_add, add_zero, mul_one, zero_mul, m2, m3, m4]
  refine plan_p rfl rfl (pr_extract rfl rfl) ?_
  try simp only [n0, n1, n2, n3, getD_cons_zero, getD_cons_succ, set_cons_zero, set_cons_succ, zero_add, add_zero, mul_one, zero_mul, m2, m3, m4]
  refine plan_p rfl rfl (pr_extract rfl rfl) ?_
  try simp only [n0, n1, n2, n3, getD_cons_zero, getD_cons_succ, set_cons_zero, set_cons_succ, zero_add, add_zero, mul_one, zero_mul, m2, m3, m4]
  refine plan_p rfl rfl pr_assign ?_
  try simp only [n0, n1, n2, n3, getD_cons_zero, getD_cons_succ, set_cons_zero, set_cons_succ, zero_add, add_zero, mul_one, zero_mul, m2, m3, m4]
  refine plan_p rfl rfl pr_assign ?_
  try simp only [n0, n1, n2, n3, getD_cons_zero, getD_cons_succ, set_cons_zero, set_cons_succ, zero_add, add_zero, mul_one, zero_mul, m2, m3, m4]
  refine plan_nil hH ?_
  clear hH
  intro w12 hH
  refine hK5 _ _ ?_
  try clear hK5 K5
  refine wp_seq_k ?_
  intro K13 hK13
  refine wp_seq_k ?_
  intro K14 hK14
  refine wp_region_text [.q 0, .p 1, .p 2, .p 3, .p 4, .p 5] rfl ?_
  refine plan_q rfl rfl (qr_call cf24 (fun w' hw => sealed_calls w') rfl) ?_
  try simp only [n0, n1, n2, n3, getD_cons_zero, getD_cons_succ, set_cons_zero, set_cons_succ, zero_add, add_zero, mul_one, zero_mul, m2, m3, m4]
  refine plan_p rfl rfl (pr_not rfl) ?_
  try simp only [n0, n1, n2, n3, getD_cons_zero, getD_cons_succ, set_cons_zero, set_cons_succ, zero_add, add_zero, mul_one, zero_mul, m2, m3, m4]
  refine plan_p (v := BV false) rfl rfl (pr_move_v rfl) ?_
  try simp only [n0, n1, n2, n3, getD_cons_zero, getD_cons_succ, set_cons_zero, set_cons_succ, zero_add, add_zero, mul_one, zero_mul, m2, m3, m4]
  refine plan_p rfl rfl pr_move ?_
  try simp only [n0, n1, n2, n3, getD_cons_zero, getD_cons_succ, set_cons_zero, set_cons_succ, zero_add, add_zero, mul_one, zero_mul, m2, m3, m4]
  refine plan_p rfl rfl (pr_bin rfl rfl (by first | exact bin_neq_n (n := 0)  | exact bin_neq_i)) ?_
  try simp only [n0, n1, n2, n3, getD_cons_zero, getD_cons_succ, set_cons_zero, set_cons_succ, zero_add, add_zero, mul_one, zero_mul, m2, m3, m4]
  refine plan_p rfl rfl (pr_pick_f rfl) ?_
  try simp only [n0, n1, n2, n3, getD_cons_zero, getD_cons_succ, set_cons_zero, set_cons_succ, zero_add, add_zero, mul_one, zero_mul, m2, m3, m4]
  refine plan_nil hH ?_
  clear hH
  intro w15 hH
  refine hK14 _ _ ?_
  try clear hK14 K14
  refine wp_cond_false rfl ?_
  refine wp_skip ?_
  refine hK13 _ _ ?_
  try clear hK13 K13
  refine wp_seq_k ?_
  intro K16 hK16
  refine wp_region_text [.x 0, .p 1, .q 2, .e 3, .e 4, .p 5, .p 6] rfl ?_
  refine plan_buildSlice rfl rfl hH Try.underlying27 (by rfl) (bs0 ) ?_
  clear hH
  intro b17 w18 hH
  try simp only [n0, n1, n2, n3, getD_cons_zero, getD_cons_succ, set_cons_zero, set_cons_succ, zero_add, add_zero, mul_one, zero_mul, m2, m3, m4, m5, m6, m7, Value.cells, arr8_set, arr32_set, arr64_set, arrB_set] at hH ⊢
  refine plan_p rfl rfl (pr_fieldAddr 16 rfl Try.underlying48 rfl rfl sz27) ?_
  try simp only [n0, n1, n2, n3, getD_cons_zero, getD_cons_succ, set_cons_zero, set_cons_succ, zero_add, add_zero, mul_one, zero_mul, m2, m3, m4]
  refine plan_q rfl rfl (qr_load1 rfl Try.underlying27 rfl ((hH.blk 0 rfl).cell letterC_nonce)) ?_
  try simp only [n0, n1, n2, n3, getD_cons_zero, getD_cons_succ, set_cons_zero, set_cons_succ, zero_add, add_zero, mul_one, zero_mul, m2, m3, m4]
  refine plan_append 3 rfl rfl hH rfl (OwnC.of_bytes rfl) (fun w' hH => ((hn.chg hH.chg)).src) rfl rfl Try.underlying27 Try.underlying27 (.inl ⟨_, rfl⟩) sz5 bz5 ze5 rfl (by first | omega | (simp <;> omega)) (by first | omega | (simp <;> omega)) ?_
  clear hH
  intro o19 cap20 cs21 w22 hO23 hH
  try simp only [n0, n1, n2, n3, getD_cons_zero, getD_cons_succ, set_cons_zero, set_cons_succ, zero_add, add_zero, mul_one, zero_mul, m2, m3, m4] at hH ⊢
  try simp only [n0, n1, n2, n3, getD_cons_zero, getD_cons_succ, set_cons_zero, set_cons_succ, zero_add, add_zero, mul_one, zero_mul, m2, m3, m4, m5, m6, m7, Value.cells, arr8_set, arr32_set, arr64_set, arrB_set] at hH ⊢
  try rw [← List.map_append] at hO23
  try simp only [Nat.zero_add, List.nil_append, List.length_nil] at hO23 ⊢
  refine plan_appendz 3 (m := 12) rfl rfl hH rfl hO23 rfl rfl (by decide) Try.underlying27 Try.underlying3 sz5 bz5 ze5 (by first | omega | (simp <;> omega)) ?_
  clear hH
  intro o24 cap25 cs26 w27 hO28 hH
  try simp only [n0, n1, n2, n3, getD_cons_zero, getD_cons_succ, set_cons_zero, set_cons_succ, zero_add, add_zero, mul_one, zero_mul, m2, m3, m4] at hH ⊢
  try simp only [n0, n1, n2, n3, getD_cons_zero, getD_cons_succ, set_cons_zero, set_cons_succ, zero_add, add_zero, mul_one, zero_mul, m2, m3, m4, m5, m6, m7, Value.cells, arr8_set, arr32_set, arr64_set, arrB_set] at hH ⊢
  rw [← List.map_append] at hO28
  refine plan_p rfl rfl (pr_slice_Sl_h (hi := 12) (OwnC.sl hH 3 rfl hO28) rfl rfl Try.underlying27 sz5 (by first | omega | (first | (simp only [sealedL_len, List.length_map, List.length_range, List.length_take]; omega) | (simp; omega) | simp))) ?_
  try simp only [n0, n1, n2, n3, getD_cons_zero, getD_cons_succ, set_cons_zero, set_cons_succ, zero_add, add_zero, mul_one, zero_mul, m2, m3, m4]
  refine plan_p rfl rfl pr_assign ?_
  try simp only [n0, n1, n2, n3, getD_cons_zero, getD_cons_succ, set_cons_zero, set_cons_succ, zero_add, add_zero, mul_one, zero_mul, m2, m3, m4]
  refine plan_nil hH ?_
  clear hH
  intro w29 hH
  refine hK16 _ _ ?_
  try clear hK16 K16
  refine wp_seq_k ?_
  intro K30 hK30
  obtain ⟨N31, hNw32, hNb33⟩ := hH.sizeN
  refine wp_region_pend [] [8, 17] (ChgN N31) (by kernel_rfl) ?_
  refine Pend.plan (n := 6) (Far.chgN N31) (by kernel_rfl) (fun _ _ _ _ _ h => by first | exact h | exact BP.panic _ _ _ _ _ h) [.p 1, .p 3, .p 10, .p 12, .r 2 (ChgN N31), .r 4 (ChgN N31), .p 5, .p 6, .p 7, .r 11 (ChgN N31), .r 13 (ChgN N31), .p 14, .p 15, .p 16] [] _ _ (by simp [AllR]) (by simp [effects]) (by simp [marked]) (by kernel_rfl) ?_
  refine plan_p rfl rfl (pr_fieldAddr 17 rfl Try.underlying48 rfl rfl sz27) ?_
  try simp only [n0, n1, n2, n3, getD_cons_zero, getD_cons_succ, set_cons_zero, set_cons_succ, zero_add, add_zero, mul_one, zero_mul, m2, m3, m4]
  refine plan_p rfl rfl (pr_fieldAddr 17 rfl Try.underlying48 rfl rfl sz27) ?_
  try simp only [n0, n1, n2, n3, getD_cons_zero, getD_cons_succ, set_cons_zero, set_cons_succ, zero_add, add_zero, mul_one, zero_mul, m2, m3, m4]
  refine plan_p rfl rfl (pr_fieldAddr 18 rfl Try.underlying48 rfl rfl sz27) ?_
  try simp only [n0, n1, n2, n3, getD_cons_zero, getD_cons_succ, set_cons_zero, set_cons_succ, zero_add, add_zero, mul_one, zero_mul, m2, m3, m4]
  refine plan_p rfl rfl (pr_fieldAddr 18 rfl Try.underlying48 rfl rfl sz27) ?_
  try simp only [n0, n1, n2, n3, getD_cons_zero, getD_cons_succ, set_cons_zero, set_cons_succ, zero_add, add_zero, mul_one, zero_mul, m2, m3, m4]
  refine plan_r rfl rfl (rr_loadN (hH.blk 0 rfl) (hNb33 0 _ _ _ rfl) rfl Try.underlying27 rfl letterC_side) ?_
  try simp only [n0, n1, n2, n3, getD_cons_zero, getD_cons_succ, set_cons_zero, set_cons_succ, zero_add, add_zero, mul_one, zero_mul, m2, m3, m4]
  refine plan_r rfl rfl (rr_loadN (hH.blk 0 rfl) (hNb33 0 _ _ _ rfl) rfl Try.underlying27 rfl letterC_side) ?_
  try simp only [n0, n1, n2, n3, getD_cons_zero, getD_cons_succ, set_cons_zero, set_cons_succ, zero_add, add_zero, mul_one, zero_mul, m2, m3, m4]
  refine plan_p rfl rfl (pr_len_Sl (ha.chg hH.chg) rfl Try.underlying27) ?_
  try simp only [n0, n1, n2, n3, getD_cons_zero, getD_cons_succ, set_cons_zero, set_cons_succ, zero_add, add_zero, mul_one, zero_mul, m2, m3, m4]
  refine plan_p rfl rfl (by first | exact pr_min_n (n := 600) rfl rfl | exact pr_min rfl rfl) ?_
  try simp only [n0, n1, n2, n3, getD_cons_zero, getD_cons_succ, set_cons_zero, set_cons_succ, zero_add, add_zero, mul_one, zero_mul, m2, m3, m4]
  refine plan_p rfl rfl (pr_slice_Sl_h (ha.chg hH.chg) rfl rfl Try.underlying27 sz5 (by first | omega | (first | (simp only [sealedL_len, List.length_map, List.length_range, List.length_take]; omega) | (simp; omega) | simp))) ?_
  try simp only [n0, n1, n2, n3, getD_cons_zero, getD_cons_succ, set_cons_zero, set_cons_succ, zero_add, add_zero, mul_one, zero_mul, m2, m3, m4]
  refine plan_r rfl rfl (rr_loadN (hH.blk 0 rfl) (hNb33 0 _ _ _ rfl) rfl Try.underlying27 rfl letterC_bytes) ?_
  try simp only [n0, n1, n2, n3, getD_cons_zero, getD_cons_succ, set_cons_zero, set_cons_succ, zero_add, add_zero, mul_one, zero_mul, m2, m3, m4]
  refine plan_r rfl rfl (rr_loadN (hH.blk 0 rfl) (hNb33 0 _ _ _ rfl) rfl Try.underlying27 rfl letterC_bytes) ?_
  try simp only [n0, n1, n2, n3, getD_cons_zero, getD_cons_succ, set_cons_zero, set_cons_succ, zero_add, add_zero, mul_one, zero_mul, m2, m3, m4]
  refine plan_p rfl rfl (pr_len_Sl (hb.chg hH.chg) rfl Try.underlying27) ?_
  try simp only [n0, n1, n2, n3, getD_cons_zero, getD_cons_succ, set_cons_zero, set_cons_succ, zero_add, add_zero, mul_one, zero_mul, m2, m3, m4]
  refine plan_p rfl rfl (by first | exact pr_min_n (n := 600) rfl rfl | exact pr_min rfl rfl) ?_
  try simp only [n0, n1, n2, n3, getD_cons_zero, getD_cons_succ, set_cons_zero, set_cons_succ, zero_add, add_zero, mul_one, zero_mul, m2, m3, m4]
  refine plan_p rfl rfl (pr_slice_Sl_h (hb.chg hH.chg) rfl rfl Try.underlying27 sz5 (by first | omega | (first | (simp only [sealedL_len, List.length_map, List.length_range, List.length_take]; omega) | (simp; omega) | simp))) ?_
  try simp only [n0, n1, n2, n3, getD_cons_zero, getD_cons_succ, set_cons_zero, set_cons_succ, zero_add, add_zero, mul_one, zero_mul, m2, m3, m4]
  refine plan_nilN hNw32 hH ?_
  clear hH
  intro w34 hNw35 hH
  refine Pend.fork2 (Far.chgN N31) (n := 5) (.x 0) (.x 9) (by kernel_rfl) (by kernel_rfl) (by simp [AllR]) (by simp [AllR]) (by kernel_rfl) (by kernel_rfl) ?_ ?_
  ·
    refine plan_buildSliceN rfl rfl hNw35 hH Try.underlying27 (by rfl) (bs0 ) ?_
    clear hH
    intro b36 w37 hNw38 hNo39 hH
    try simp only [n0, n1, n2, n3, getD_cons_zero, getD_cons_succ, set_cons_zero, set_cons_succ, zero_add, add_zero, mul_one, zero_mul, m2, m3, m4, m5, m6, m7, Value.cells, arr8_set, arr32_set, arr64_set, arrB_set] at hH ⊢
    refine plan_nilN hNw38 hH ?_
    clear hH
    intro w40 hNw41 hH
    refine Pend.fork2 (Far.chgN N31) (n := 4) (.s 8 (ChgN N31)) (.x 9) (by kernel_rfl) (by kernel_rfl) (by simp [AllR]) (by simp [AllR]) (by kernel_rfl) (by kernel_rfl) ?_ ?_
    ·
      refine plan_appendN 4 rfl rfl hNw41 (fun b hb => by cases hb; exact hNo39) hH rfl (OwnC.of_bytes rfl) (fun w' hH => ((Sl.cuth (ha.chg hH.chg) (by first | omega | (first | (simp only [sealedL_len, List.length_map, List.length_range, List.length_take]; omega) | (simp; omega) | simp)))).src) rfl rfl Try.underlying27 Try.underlying27 (.inl ⟨_, rfl⟩) sz5 bz5 ze5 rfl (by first | omega | (simp <;> omega)) (by first | omega | (simp <;> omega)) ?_
      clear hH
      intro o42 cap43 cs44 w45 hO46 hNw47 hNo48 hH
      try simp only [n0, n1, n2, n3, getD_cons_zero, getD_cons_succ, set_cons_zero, set_cons_succ, zero_add, add_zero, mul_one, zero_mul, m2, m3, m4] at hH ⊢
      try simp only [n0, n1, n2, n3, getD_cons_zero, getD_cons_succ, set_cons_zero, set_cons_succ, zero_add, add_zero, mul_one, zero_mul, m2, m3, m4, m5, m6, m7, Value.cells, arr8_set, arr32_set, arr64_set, arrB_set] at hH ⊢
      try rw [← List.map_append] at hO46
      try simp only [Nat.zero_add, List.nil_append, List.length_nil] at hO46 ⊢
      refine plan_nilN hNw47 hH ?_
      clear hH
      intro w49 hNw50 hH
      refine Pend.plan (n := 0) (Far.chgN N31) (by kernel_rfl) (fun _ _ _ _ _ h => by first | exact h | exact BP.panic _ _ _ _ _ h) [.x 9, .s 17 (ChgN N31), .p 18, .p 19] [8, 0, 16, 15, 14, 13, 11, 7, 6, 5, 4, 2, 12, 10, 3, 1] _ _ (by simp [AllR]) (by simp [effects]) (by simp [marked]) (by kernel_rfl) ?_
      refine plan_buildSliceN rfl rfl hNw50 hH Try.underlying27 (by rfl) (bs0 ) ?_
      clear hH
      intro b51 w52 hNw53 hNo54 hH
      try simp only [n0, n1, n2, n3, getD_cons_zero, getD_cons_succ, set_cons_zero, set_cons_succ, zero_add, add_zero, mul_one, zero_mul, m2, m3, m4, m5, m6, m7, Value.cells, arr8_set, arr32_set, arr64_set, arrB_set] at hH ⊢
      refine plan_appendN 5 rfl rfl hNw53 (fun b hb => by cases hb; exact hNo54) hH rfl (OwnC.of_bytes rfl) (fun w' hH => ((Sl.cuth (hb.chg hH.chg) (by first | omega | (first | (simp only [sealedL_len, List.length_map, List.length_range, List.length_take]; omega) | (simp; omega) | simp)))).src) rfl rfl Try.underlying27 Try.underlying27 (.inl ⟨_, rfl⟩) sz5 bz5 ze5 rfl (by first | omega | (simp <;> omega)) (by first | omega | (simp <;> omega)) ?_
      clear hH
      intro o55 cap56 cs57 w58 hO59 hNw60 hNo61 hH
      try simp only [n0, n1, n2, n3, getD_cons_zero, getD_cons_succ, set_cons_zero, set_cons_succ, zero_add, add_zero, mul_one, zero_mul, m2, m3, m4] at hH ⊢
      try simp only [n0, n1, n2, n3, getD_cons_zero, getD_cons_succ, set_cons_zero, set_cons_succ, zero_add, add_zero, mul_one, zero_mul, m2, m3, m4, m5, m6, m7, Value.cells, arr8_set, arr32_set, arr64_set, arrB_set] at hH ⊢
      try rw [← List.map_append] at hO59
      try simp only [Nat.zero_add, List.nil_append, List.length_nil] at hO59 ⊢
      refine plan_p rfl rfl pr_assign ?_
      try simp only [n0, n1, n2, n3, getD_cons_zero, getD_cons_succ, set_cons_zero, set_cons_succ, zero_add, add_zero, mul_one, zero_mul, m2, m3, m4]
      refine plan_p rfl rfl pr_assign ?_
      try simp only [n0, n1, n2, n3, getD_cons_zero, getD_cons_succ, set_cons_zero, set_cons_succ, zero_add, add_zero, mul_one, zero_mul, m2, m3, m4]
      refine plan_nilN hNw60 hH ?_
      clear hH
      intro w62 hNw63 hH
      refine Pend.done (by kernel_rfl) ?_
      intro w64 hw65
      replace hH := hH.call hw65; clear hw65
      refine hK30 _ _ ?_
      try clear hK30 K30
      refine wp_seq_k ?_
      intro K66 hK66
      refine wp_region_text [.p 0, .p 1, .p 2, .p 3, .x 4, .p 5, .p 6, .p 7, .p 8, .p 9] rfl ?_
      refine plan_p rfl rfl pr_move ?_
      try simp only [n0, n1, n2, n3, getD_cons_zero, getD_cons_succ, set_cons_zero, set_cons_succ, zero_add, add_zero, mul_one, zero_mul, m2, m3, m4]
      refine plan_p rfl rfl pr_move ?_
      try simp only [n0, n1, n2, n3, getD_cons_zero, getD_cons_succ, set_cons_zero, set_cons_succ, zero_add, add_zero, mul_one, zero_mul, m2, m3, m4]
      refine plan_p rfl rfl pr_move ?_
      try simp only [n0, n1, n2, n3, getD_cons_zero, getD_cons_succ, set_cons_zero, set_cons_succ, zero_add, add_zero, mul_one, zero_mul, m2, m3, m4]
      refine plan_p rfl rfl pr_move ?_
      try simp only [n0, n1, n2, n3, getD_cons_zero, getD_cons_succ, set_cons_zero, set_cons_succ, zero_add, add_zero, mul_one, zero_mul, m2, m3, m4]
      refine plan_callx rfl rfl hH cf26 (fun w' hH => Seal_calls _ _ _ (hP _) _ _ _ _ _ _ w' (hH.blk 2 rfl) (hH.blk 1 rfl) (Sl.cuth (OwnC.sl hH 3 rfl hO28) (by first | omega | (first | (simp only [sealedL_len, List.length_map, List.length_range, List.length_take]; omega) | (simp; omega) | simp))) (nonceL_len nl) (OwnC.sl hH 4 rfl hO46) (OwnC.sl hH 5 rfl hO59) (by simp; omega)) rfl (fun _ _ _ h => by obtain ⟨_, _, _, _, hg, _⟩ := h; exact hg) ?_
      clear hH
      intro w67 v68 w69 hH hp70
      obtain ⟨o71, cap72, cs73, rfl, hg, hO74, hfr⟩ := hp70
      replace hH := hH.callown hg hfr
      clear hg hfr
      try simp only [n0, n1, n2, n3, getD_cons_zero, getD_cons_succ, set_cons_zero, set_cons_succ, zero_add, add_zero, mul_one, zero_mul, m2, m3, m4, m5, m6, m7, Value.cells, arr8_set, arr32_set, arr64_set, arrB_set] at hH ⊢
      try simp only [n0, n1, n2, n3, getD_cons_zero, getD_cons_succ, set_cons_zero, set_cons_succ, zero_add, add_zero, mul_one, zero_mul, m2, m3, m4]
      refine plan_p rfl rfl pr_move ?_
      try simp only [n0, n1, n2, n3, getD_cons_zero, getD_cons_succ, set_cons_zero, set_cons_succ, zero_add, add_zero, mul_one, zero_mul, m2, m3, m4]
      refine plan_p rfl rfl (pr_extract rfl rfl) ?_
      try simp only [n0, n1, n2, n3, getD_cons_zero, getD_cons_succ, set_cons_zero, set_cons_succ, zero_add, add_zero, mul_one, zero_mul, m2, m3, m4]
      refine plan_p rfl rfl (pr_extract rfl rfl) ?_
      try simp only [n0, n1, n2, n3, getD_cons_zero, getD_cons_succ, set_cons_zero, set_cons_succ, zero_add, add_zero, mul_one, zero_mul, m2, m3, m4]
      refine plan_p rfl rfl pr_assign ?_
      try simp only [n0, n1, n2, n3, getD_cons_zero, getD_cons_succ, set_cons_zero, set_cons_succ, zero_add, add_zero, mul_one, zero_mul, m2, m3, m4]
      refine plan_p rfl rfl pr_assign ?_
      try simp only [n0, n1, n2, n3, getD_cons_zero, getD_cons_succ, set_cons_zero, set_cons_succ, zero_add, add_zero, mul_one, zero_mul, m2, m3, m4]
      refine plan_nil hH ?_
      clear hH
      intro w75 hH
      refine hK66 _ _ ?_
      try clear hK66 K66
      refine wp_seq_k ?_
      intro K76 hK76
      refine wp_region_text [.p 0, .q 1, .p 2] rfl ?_
      refine plan_p rfl rfl pr_move ?_
      try simp only [n0, n1, n2, n3, getD_cons_zero, getD_cons_succ, set_cons_zero, set_cons_succ, zero_add, add_zero, mul_one, zero_mul, m2, m3, m4]
      refine plan_q rfl rfl (qr_b2s (OwnC.sl hH 6 rfl hO74) rfl Try.underlying27 Try.underlying5 Try.underlying9) ?_
      try simp only [n0, n1, n2, n3, getD_cons_zero, getD_cons_succ, set_cons_zero, set_cons_succ, zero_add, add_zero, mul_one, zero_mul, m2, m3, m4]
      refine plan_p rfl rfl pr_assign ?_
      try simp only [n0, n1, n2, n3, getD_cons_zero, getD_cons_succ, set_cons_zero, set_cons_succ, zero_add, add_zero, mul_one, zero_mul, m2, m3, m4]
      refine plan_nil hH ?_
      clear hH
      intro w77 hH
      refine hK76 _ _ ?_
      try clear hK76 K76
      refine wp_seq_k ?_
      intro K78 hK78
      refine wp_region_text [.p 0, .p 1, .p 2, .p 3, .x 4, .p 5, .p 6, .p 7, .p 8, .p 9] rfl ?_
      refine plan_p rfl rfl pr_move ?_
      try simp only [n0, n1, n2, n3, getD_cons_zero, getD_cons_succ, set_cons_zero, set_cons_succ, zero_add, add_zero, mul_one, zero_mul, m2, m3, m4]
      refine plan_p rfl rfl pr_move ?_
      try simp only [n0, n1, n2, n3, getD_cons_zero, getD_cons_succ, set_cons_zero, set_cons_succ, zero_add, add_zero, mul_one, zero_mul, m2, m3, m4]
      refine plan_p rfl rfl pr_move ?_
      try simp only [n0, n1, n2, n3, getD_cons_zero, getD_cons_succ, set_cons_zero, set_cons_succ, zero_add, add_zero, mul_one, zero_mul, m2, m3, m4]
      refine plan_p rfl rfl pr_move ?_
      try simp only [n0, n1, n2, n3, getD_cons_zero, getD_cons_succ, set_cons_zero, set_cons_succ, zero_add, add_zero, mul_one, zero_mul, m2, m3, m4]
      refine plan_callx rfl rfl hH cf32 (fun w' hH => Open_calls _ _ _ (hP _) _ _ _ _ _ _ w' (hH.blk 2 rfl) (hH.blk 1 rfl) (Sl.cuth (OwnC.sl hH 3 rfl hO28) (by first | omega | (first | (simp only [sealedL_len, List.length_map, List.length_range, List.length_take]; omega) | (simp; omega) | simp))) (nonceL_len nl) (OwnC.sl hH 4 rfl hO46) (OwnC.sl hH 6 rfl hO74) (by rw [sealedL_len]; simp; omega) (by rw [sealedL_len]; omega) (by rw [sealed_take, sealed_drop])) rfl (fun _ _ _ h => by obtain ⟨_, _, _, _, hg, _⟩ := h; exact hg) ?_
      clear hH
      intro w79 v80 w81 hH hp82
      obtain ⟨o83, cap84, cs85, rfl, hg, hO86, hfr⟩ := hp82
      replace hH := hH.callown hg hfr
      clear hg hfr
      try simp only [n0, n1, n2, n3, getD_cons_zero, getD_cons_succ, set_cons_zero, set_cons_succ, zero_add, add_zero, mul_one, zero_mul, m2, m3, m4, m5, m6, m7, Value.cells, arr8_set, arr32_set, arr64_set, arrB_set] at hH ⊢
      try simp only [n0, n1, n2, n3, getD_cons_zero, getD_cons_succ, set_cons_zero, set_cons_succ, zero_add, add_zero, mul_one, zero_mul, m2, m3, m4]
      refine plan_p rfl rfl pr_move ?_
      try simp only [n0, n1, n2, n3, getD_cons_zero, getD_cons_succ, set_cons_zero, set_cons_succ, zero_add, add_zero, mul_one, zero_mul, m2, m3, m4]
      refine plan_p rfl rfl (pr_extract rfl rfl) ?_
      try simp only [n0, n1, n2, n3, getD_cons_zero, getD_cons_succ, set_cons_zero, set_cons_succ, zero_add, add_zero, mul_one, zero_mul, m2, m3, m4]
      refine plan_p rfl rfl (pr_extract rfl rfl) ?_
      try simp only [n0, n1, n2, n3, getD_cons_zero, getD_cons_succ, set_cons_zero, set_cons_succ, zero_add, add_zero, mul_one, zero_mul, m2, m3, m4]
      refine plan_p rfl rfl pr_assign ?_
      try simp only [n0, n1, n2, n3, getD_cons_zero, getD_cons_succ, set_cons_zero, set_cons_succ, zero_add, add_zero, mul_one, zero_mul, m2, m3, m4]
      refine plan_p rfl rfl pr_assign ?_
      try simp only [n0, n1, n2, n3, getD_cons_zero, getD_cons_succ, set_cons_zero, set_cons_succ, zero_add, add_zero, mul_one, zero_mul, m2, m3, m4]
      refine plan_nil hH ?_
      clear hH
      intro w87 hH
      refine hK78 _ _ ?_
      try clear hK78 K78
      refine wp_seq_k ?_
      intro K88 hK88
      refine wp_region_plan [.p 0, .p 1, .p 2, .p 3, .p 4, .p 5, .p 6, .p 7, .p 9, .q 8, .q 10, .p 11, .p 12, .p 13, .p 14, .p 15, .p 16, .p 17, .p 18, .p 19, .p 20, .p 21, .p 22, .p 24, .q 23, .p 25, .p 26, .p 27, .p 28, .p 30, .p 32, .p 33, .q 29, .q 31, .p 34, .q 35, .p 36, .p 37, .p 38, .p 39, .p 41, .p 43, .p 44, .q 40, .q 42, .p 45, .q 46, .p 47, .p 48, .p 49] (by kernel_rfl) (by kernel_rfl) (by kernel_rfl) (by kernel_rfl) (fun _ _ _ _ _ h => by first | exact h | exact BP.panic _ _ _ _ _ h) ?_
      refine plan_p rfl rfl pr_move ?_
      try simp only [n0, n1, n2, n3, getD_cons_zero, getD_cons_succ, set_cons_zero, set_cons_succ, zero_add, add_zero, mul_one, zero_mul, m2, m3, m4]
      refine plan_p rfl rfl (pr_bin rfl rfl (by first | exact bin_eql_n (n := 0)  | exact bin_eql_i)) ?_
      try simp only [n0, n1, n2, n3, getD_cons_zero, getD_cons_succ, set_cons_zero, set_cons_succ, zero_add, add_zero, mul_one, zero_mul, m2, m3, m4]
      refine plan_p (v := BV true) rfl rfl (pr_move_v rfl) ?_
      try simp only [n0, n1, n2, n3, getD_cons_zero, getD_cons_succ, set_cons_zero, set_cons_succ, zero_add, add_zero, mul_one, zero_mul, m2, m3, m4]
      refine plan_p rfl rfl pr_move ?_
      try simp only [n0, n1, n2, n3, getD_cons_zero, getD_cons_succ, set_cons_zero, set_cons_succ, zero_add, add_zero, mul_one, zero_mul, m2, m3, m4]
      refine plan_p rfl rfl (pr_bin rfl rfl (by first | exact bin_eql_n (n := 0)  | exact bin_eql_i)) ?_
      try simp only [n0, n1, n2, n3, getD_cons_zero, getD_cons_succ, set_cons_zero, set_cons_succ, zero_add, add_zero, mul_one, zero_mul, m2, m3, m4]
      refine plan_p rfl rfl (pr_pick_t rfl) ?_
      try simp only [n0, n1, n2, n3, getD_cons_zero, getD_cons_succ, set_cons_zero, set_cons_succ, zero_add, add_zero, mul_one, zero_mul, m2, m3, m4]
      refine plan_p (v := BV true) rfl rfl (pr_move_v rfl) ?_
      try simp only [n0, n1, n2, n3, getD_cons_zero, getD_cons_succ, set_cons_zero, set_cons_succ, zero_add, add_zero, mul_one, zero_mul, m2, m3, m4]
      refine plan_p rfl rfl pr_move ?_
      try simp only [n0, n1, n2, n3, getD_cons_zero, getD_cons_succ, set_cons_zero, set_cons_succ, zero_add, add_zero, mul_one, zero_mul, m2, m3, m4]
      refine plan_p rfl rfl pr_move ?_
      try simp only [n0, n1, n2, n3, getD_cons_zero, getD_cons_succ, set_cons_zero, set_cons_succ, zero_add, add_zero, mul_one, zero_mul, m2, m3, m4]
      refine plan_q rfl rfl (qr_b2s (OwnC.sl hH 7 rfl hO86) rfl Try.underlying27 Try.underlying5 Try.underlying9) ?_
      try simp only [n0, n1, n2, n3, getD_cons_zero, getD_cons_succ, set_cons_zero, set_cons_succ, zero_add, add_zero, mul_one, zero_mul, m2, m3, m4]
      refine plan_q rfl rfl (qr_b2s (OwnC.sl hH 5 rfl hO59) rfl Try.underlying27 Try.underlying5 Try.underlying9) ?_
      try simp only [n0, n1, n2, n3, getD_cons_zero, getD_cons_succ, set_cons_zero, set_cons_succ, zero_add, add_zero, mul_one, zero_mul, m2, m3, m4]
      refine plan_p rfl rfl (pr_bin rfl rfl bin_eql_s) ?_
      try simp only [n0, n1, n2, n3, getD_cons_zero, getD_cons_succ, set_cons_zero, set_cons_succ, zero_add, add_zero, mul_one, zero_mul, m2, m3, m4]
      refine plan_p rfl rfl (pr_pick_t rfl) ?_
      try simp only [n0, n1, n2, n3, getD_cons_zero, getD_cons_succ, set_cons_zero, set_cons_succ, zero_add, add_zero, mul_one, zero_mul, m2, m3, m4]
      refine plan_p (v := BV true) rfl rfl (pr_move_v (by
      refine congrArg BV (?_ : ((_ : List UInt8) == _) = true)
      rw [beq_iff_eq]
      exact (congrArg (hidL _ _) (sealed_take _ _ _ _ _)).trans (hid_twice _ _ _))) ?_
      try simp only [n0, n1, n2, n3, getD_cons_zero, getD_cons_succ, set_cons_zero, set_cons_succ, zero_add, add_zero, mul_one, zero_mul, m2, m3, m4]
      refine plan_p rfl rfl pr_move ?_
      try simp only [n0, n1, n2, n3, getD_cons_zero, getD_cons_succ, set_cons_zero, set_cons_succ, zero_add, add_zero, mul_one, zero_mul, m2, m3, m4]
      refine plan_p rfl rfl (pr_len_sl rfl Try.underlying27) ?_
      try simp only [n0, n1, n2, n3, getD_cons_zero, getD_cons_succ, set_cons_zero, set_cons_succ, zero_add, add_zero, mul_one, zero_mul, m2, m3, m4]
      refine plan_p rfl rfl pr_move ?_
      try simp only [n0, n1, n2, n3, getD_cons_zero, getD_cons_succ, set_cons_zero, set_cons_succ, zero_add, add_zero, mul_one, zero_mul, m2, m3, m4]
      refine plan_p rfl rfl (pr_len_sl rfl Try.underlying27) ?_
      try simp only [n0, n1, n2, n3, getD_cons_zero, getD_cons_succ, set_cons_zero, set_cons_succ, zero_add, add_zero, mul_one, zero_mul, m2, m3, m4]
      refine plan_p rfl rfl (pr_bin rfl rfl (by first | exact bin_add_n (n := 16) (by first | omega | (first | (simp only [sealedL_len, List.length_map, List.length_range, List.length_take]; omega) | (simp; omega) | simp)) | exact bin_add_i (by first | omega | (first | (simp only [sealedL_len, List.length_map, List.length_range, List.length_take]; omega) | (simp; omega) | simp)) (by first | omega | (first | (simp only [sealedL_len, List.length_map, List.length_range, List.length_take]; omega) | (simp; omega) | simp)))) ?_
      try simp only [n0, n1, n2, n3, getD_cons_zero, getD_cons_succ, set_cons_zero, set_cons_succ, zero_add, add_zero, mul_one, zero_mul, m2, m3, m4]
      refine plan_p rfl rfl (pr_bin rfl rfl (by first | exact bin_eql_n  | exact bin_eql_i)) ?_
      try simp only [n0, n1, n2, n3, getD_cons_zero, getD_cons_succ, set_cons_zero, set_cons_succ, zero_add, add_zero, mul_one, zero_mul, m2, m3, m4]
      refine plan_p rfl rfl (pr_pick_t rfl) ?_
      try simp only [n0, n1, n2, n3, getD_cons_zero, getD_cons_succ, set_cons_zero, set_cons_succ, zero_add, add_zero, mul_one, zero_mul, m2, m3, m4]
      refine plan_p (v := BV true) rfl rfl (pr_move_v (by show BV (_ == _) = _; exact congrArg BV (by simp))) ?_
      try simp only [n0, n1, n2, n3, getD_cons_zero, getD_cons_succ, set_cons_zero, set_cons_succ, zero_add, add_zero, mul_one, zero_mul, m2, m3, m4]
      refine plan_p rfl rfl pr_move ?_
      try simp only [n0, n1, n2, n3, getD_cons_zero, getD_cons_succ, set_cons_zero, set_cons_succ, zero_add, add_zero, mul_one, zero_mul, m2, m3, m4]
      refine plan_p rfl rfl pr_move ?_
      try simp only [n0, n1, n2, n3, getD_cons_zero, getD_cons_succ, set_cons_zero, set_cons_succ, zero_add, add_zero, mul_one, zero_mul, m2, m3, m4]
      refine plan_q rfl rfl (qr_b2s (OwnC.sl hH 6 rfl hO74) rfl Try.underlying27 Try.underlying5 Try.underlying9) ?_
      try simp only [n0, n1, n2, n3, getD_cons_zero, getD_cons_succ, set_cons_zero, set_cons_succ, zero_add, add_zero, mul_one, zero_mul, m2, m3, m4]
      refine plan_p rfl rfl (pr_bin rfl rfl bin_eql_s) ?_
      try simp only [n0, n1, n2, n3, getD_cons_zero, getD_cons_succ, set_cons_zero, set_cons_succ, zero_add, add_zero, mul_one, zero_mul, m2, m3, m4]
      refine plan_p rfl rfl (pr_pick_t rfl) ?_
      try simp only [n0, n1, n2, n3, getD_cons_zero, getD_cons_succ, set_cons_zero, set_cons_succ, zero_add, add_zero, mul_one, zero_mul, m2, m3, m4]
      refine plan_p (v := BV true) rfl rfl (pr_move_v (by show BV (_ == _) = _; exact congrArg BV (beq_self_eq_true _))) ?_
      try simp only [n0, n1, n2, n3, getD_cons_zero, getD_cons_succ, set_cons_zero, set_cons_succ, zero_add, add_zero, mul_one, zero_mul, m2, m3, m4]
      refine plan_p rfl rfl pr_move ?_
      try simp only [n0, n1, n2, n3, getD_cons_zero, getD_cons_succ, set_cons_zero, set_cons_succ, zero_add, add_zero, mul_one, zero_mul, m2, m3, m4]
      refine plan_p rfl rfl (pr_fieldAddr 17 rfl Try.underlying48 rfl rfl sz27) ?_
      try simp only [n0, n1, n2, n3, getD_cons_zero, getD_cons_succ, set_cons_zero, set_cons_succ, zero_add, add_zero, mul_one, zero_mul, m2, m3, m4]
      refine plan_p rfl rfl pr_move ?_
      try simp only [n0, n1, n2, n3, getD_cons_zero, getD_cons_succ, set_cons_zero, set_cons_succ, zero_add, add_zero, mul_one, zero_mul, m2, m3, m4]
      refine plan_p rfl rfl (pr_len_sl rfl Try.underlying27) ?_
      try simp only [n0, n1, n2, n3, getD_cons_zero, getD_cons_succ, set_cons_zero, set_cons_succ, zero_add, add_zero, mul_one, zero_mul, m2, m3, m4]
      refine plan_q rfl rfl (qr_b2s (OwnC.sl hH 4 rfl hO46) rfl Try.underlying27 Try.underlying5 Try.underlying9) ?_
      try simp only [n0, n1, n2, n3, getD_cons_zero, getD_cons_succ, set_cons_zero, set_cons_succ, zero_add, add_zero, mul_one, zero_mul, m2, m3, m4]
      refine plan_q rfl rfl (qr_load1 rfl Try.underlying27 rfl ((hH.blk 0 rfl).cell letterC_side)) ?_
      try simp only [n0, n1, n2, n3, getD_cons_zero, getD_cons_succ, set_cons_zero, set_cons_succ, zero_add, add_zero, mul_one, zero_mul, m2, m3, m4]
      refine plan_p rfl rfl (pr_slice_Sl_h (ha.chg hH.chg) rfl rfl Try.underlying27 sz5 (by first | omega | (first | (simp only [sealedL_len, List.length_map, List.length_range, List.length_take]; omega) | (simp; omega) | simp))) ?_
      try simp only [n0, n1, n2, n3, getD_cons_zero, getD_cons_succ, set_cons_zero, set_cons_succ, zero_add, add_zero, mul_one, zero_mul, m2, m3, m4]
      refine plan_q rfl rfl (qr_b2s (Sl.cuth (ha.chg hH.chg) (by first | omega | (first | (simp only [sealedL_len, List.length_map, List.length_range, List.length_take]; omega) | (simp; omega) | simp))) rfl Try.underlying27 Try.underlying5 Try.underlying9) ?_
      try simp only [n0, n1, n2, n3, getD_cons_zero, getD_cons_succ, set_cons_zero, set_cons_succ, zero_add, add_zero, mul_one, zero_mul, m2, m3, m4]
      refine plan_p rfl rfl (pr_bin rfl rfl bin_eql_s) ?_
      try simp only [n0, n1, n2, n3, getD_cons_zero, getD_cons_succ, set_cons_zero, set_cons_succ, zero_add, add_zero, mul_one, zero_mul, m2, m3, m4]
      refine plan_p rfl rfl (pr_pick_t rfl) ?_
      try simp only [n0, n1, n2, n3, getD_cons_zero, getD_cons_succ, set_cons_zero, set_cons_succ, zero_add, add_zero, mul_one, zero_mul, m2, m3, m4]
      refine plan_p (v := BV true) rfl rfl (pr_move_v (by
      refine congrArg BV (?_ : ((_ : List UInt8) == _) = true)
      rw [beq_iff_eq]
      exact (take_take_len _ _).symm)) ?_
      try simp only [n0, n1, n2, n3, getD_cons_zero, getD_cons_succ, set_cons_zero, set_cons_succ, zero_add, add_zero, mul_one, zero_mul, m2, m3, m4]
      refine plan_p rfl rfl pr_move ?_
      try simp only [n0, n1, n2, n3, getD_cons_zero, getD_cons_succ, set_cons_zero, set_cons_succ, zero_add, add_zero, mul_one, zero_mul, m2, m3, m4]
      refine plan_p rfl rfl (pr_fieldAddr 18 rfl Try.underlying48 rfl rfl sz27) ?_
      try simp only [n0, n1, n2, n3, getD_cons_zero, getD_cons_succ, set_cons_zero, set_cons_succ, zero_add, add_zero, mul_one, zero_mul, m2, m3, m4]
      refine plan_p rfl rfl pr_move ?_
      try simp only [n0, n1, n2, n3, getD_cons_zero, getD_cons_succ, set_cons_zero, set_cons_succ, zero_add, add_zero, mul_one, zero_mul, m2, m3, m4]
      refine plan_p rfl rfl (pr_len_sl rfl Try.underlying27) ?_
      try simp only [n0, n1, n2, n3, getD_cons_zero, getD_cons_succ, set_cons_zero, set_cons_succ, zero_add, add_zero, mul_one, zero_mul, m2, m3, m4]
      refine plan_q rfl rfl (qr_b2s (OwnC.sl hH 5 rfl hO59) rfl Try.underlying27 Try.underlying5 Try.underlying9) ?_
      try simp only [n0, n1, n2, n3, getD_cons_zero, getD_cons_succ, set_cons_zero, set_cons_succ, zero_add, add_zero, mul_one, zero_mul, m2, m3, m4]
      refine plan_q rfl rfl (qr_load1 rfl Try.underlying27 rfl ((hH.blk 0 rfl).cell letterC_bytes)) ?_
      try simp only [n0, n1, n2, n3, getD_cons_zero, getD_cons_succ, set_cons_zero, set_cons_succ, zero_add, add_zero, mul_one, zero_mul, m2, m3, m4]
      refine plan_p rfl rfl (pr_slice_Sl_h (hb.chg hH.chg) rfl rfl Try.underlying27 sz5 (by first | omega | (first | (simp only [sealedL_len, List.length_map, List.length_range, List.length_take]; omega) | (simp; omega) | simp))) ?_
      try simp only [n0, n1, n2, n3, getD_cons_zero, getD_cons_succ, set_cons_zero, set_cons_succ, zero_add, add_zero, mul_one, zero_mul, m2, m3, m4]
      refine plan_q rfl rfl (qr_b2s (Sl.cuth (hb.chg hH.chg) (by first | omega | (first | (simp only [sealedL_len, List.length_map, List.length_range, List.length_take]; omega) | (simp; omega) | simp))) rfl Try.underlying27 Try.underlying5 Try.underlying9) ?_
      try simp only [n0, n1, n2, n3, getD_cons_zero, getD_cons_succ, set_cons_zero, set_cons_succ, zero_add, add_zero, mul_one, zero_mul, m2, m3, m4]
      refine plan_p rfl rfl (pr_bin rfl rfl bin_eql_s) ?_
      try simp only [n0, n1, n2, n3, getD_cons_zero, getD_cons_succ, set_cons_zero, set_cons_succ, zero_add, add_zero, mul_one, zero_mul, m2, m3, m4]
      refine plan_p rfl rfl (pr_pick_t rfl) ?_
      try simp only [n0, n1, n2, n3, getD_cons_zero, getD_cons_succ, set_cons_zero, set_cons_succ, zero_add, add_zero, mul_one, zero_mul, m2, m3, m4]
      refine plan_p rfl rfl pr_assign ?_
      try simp only [n0, n1, n2, n3, getD_cons_zero, getD_cons_succ, set_cons_zero, set_cons_succ, zero_add, add_zero, mul_one, zero_mul, m2, m3, m4]
      refine plan_nil hH ?_
      clear hH
      intro w89 hH
      refine hK88 _ _ ?_
      try clear hK88 K88
      refine wp_ret ?_
      try simp only [Exit.then, Exit.inBlock, ↓reduceIte, Nat.reduceEqDiff]
      refine BP.ret1 rfl rfl ?_
      exact ⟨congrArg BV (beq_iff_eq.2 (take_take_len _ _).symm), hH.chg⟩
    ·
      refine plan_buildSliceN rfl rfl hNw41 hH Try.underlying27 (by rfl) (bs0 ) ?_
      clear hH
      intro b90 w91 hNw92 hNo93 hH
      try simp only [n0, n1, n2, n3, getD_cons_zero, getD_cons_succ, set_cons_zero, set_cons_succ, zero_add, add_zero, mul_one, zero_mul, m2, m3, m4, m5, m6, m7, Value.cells, arr8_set, arr32_set, arr64_set, arrB_set] at hH ⊢
      refine plan_nilN hNw92 hH ?_
      clear hH
      intro w94 hNw95 hH
      refine Pend.plan (n := 0) (Far.chgN N31) (by kernel_rfl) (fun _ _ _ _ _ h => by first | exact h | exact BP.panic _ _ _ _ _ h) [.s 8 (ChgN N31), .s 17 (ChgN N31), .p 18, .p 19] [9, 0, 16, 15, 14, 13, 11, 7, 6, 5, 4, 2, 12, 10, 3, 1] _ _ (by simp [AllR]) (by simp [effects]) (by simp [marked]) (by kernel_rfl) ?_
      refine plan_appendN 4 rfl rfl hNw95 (fun b hb => by cases hb; exact hNo39) hH rfl (OwnC.of_bytes rfl) (fun w' hH => ((Sl.cuth (ha.chg hH.chg) (by first | omega | (first | (simp only [sealedL_len, List.length_map, List.length_range, List.length_take]; omega) | (simp; omega) | simp)))).src) rfl rfl Try.underlying27 Try.underlying27 (.inl ⟨_, rfl⟩) sz5 bz5 ze5 rfl (by first | omega | (simp <;> omega)) (by first | omega | (simp <;> omega)) ?_
      clear hH
      intro o96 cap97 cs98 w99 hO100 hNw101 hNo102 hH
      try simp only [n0, n1, n2, n3, getD_cons_zero, getD_cons_succ, set_cons_zero, set_cons_succ, zero_add, add_zero, mul_one, zero_mul, m2, m3, m4] at hH ⊢
      try simp only [n0, n1, n2, n3, getD_cons_zero, getD_cons_succ, set_cons_zero, set_cons_succ, zero_add, add_zero, mul_one, zero_mul, m2, m3, m4, m5, m6, m7, Value.cells, arr8_set, arr32_set, arr64_set, arrB_set] at hH ⊢
      try rw [← List.map_append] at hO100
      try simp only [Nat.zero_add, List.nil_append, List.length_nil] at hO100 ⊢
      refine plan_appendN 5 rfl rfl hNw101 (fun b hb => by cases hb; exact hNo93) hH rfl (OwnC.of_bytes rfl) (fun w' hH => ((Sl.cuth (hb.chg hH.chg) (by first | omega | (first | (simp only [sealedL_len, List.length_map, List.length_range, List.length_take]; omega) | (simp; omega) | simp)))).src) rfl rfl Try.underlying27 Try.underlying27 (.inl ⟨_, rfl⟩) sz5 bz5 ze5 rfl (by first | omega | (simp <;> omega)) (by first | omega | (simp <;> omega)) ?_
      clear hH
      intro o103 cap104 cs105 w106 hO107 hNw108 hNo109 hH
      try simp only [n0, n1, n2, n3, getD_cons_zero, getD_cons_succ, set_cons_zero, set_cons_succ, zero_add, add_zero, mul_one, zero_mul, m2, m3, m4] at hH ⊢
      try simp only [n0, n1, n2, n3, getD_cons_zero, getD_cons_succ, set_cons_zero, set_cons_succ, zero_add, add_zero, mul_one, zero_mul, m2, m3, m4, m5, m6, m7, Value.cells, arr8_set, arr32_set, arr64_set, arrB_set] at hH ⊢
      try rw [← List.map_append] at hO107
      try simp only [Nat.zero_add, List.nil_append, List.length_nil] at hO107 ⊢
      refine plan_p rfl rfl pr_assign ?_
      try simp only [n0, n1, n2, n3, getD_cons_zero, getD_cons_succ, set_cons_zero, set_cons_succ, zero_add, add_zero, mul_one, zero_mul, m2, m3, m4]
      refine plan_p rfl rfl pr_assign ?_
      try simp only [n0, n1, n2, n3, getD_cons_zero, getD_cons_succ, set_cons_zero, set_cons_succ, zero_add, add_zero, mul_one, zero_mul, m2, m3, m4]
      refine plan_nilN hNw108 hH ?_
      clear hH
      intro w110 hNw111 hH
      refine Pend.done (by kernel_rfl) ?_
      intro w112 hw113
      replace hH := hH.call hw113; clear hw113
      refine hK30 _ _ ?_
      try clear hK30 K30
      refine wp_seq_k ?_
      intro K114 hK114
      refine wp_region_text [.p 0, .p 1, .p 2, .p 3, .x 4, .p 5, .p 6, .p 7, .p 8, .p 9] rfl ?_
      refine plan_p rfl rfl pr_move ?_
      try simp only [n0, n1, n2, n3, getD_cons_zero, getD_cons_succ, set_cons_zero, set_cons_succ, zero_add, add_zero, mul_one, zero_mul, m2, m3, m4]
      refine plan_p rfl rfl pr_move ?_
      try simp only [n0, n1, n2, n3, getD_cons_zero, getD_cons_succ, set_cons_zero, set_cons_succ, zero_add, add_zero, mul_one, zero_mul, m2, m3, m4]
      refine plan_p rfl rfl pr_move ?_
      try simp only [n0, n1, n2, n3, getD_cons_zero, getD_cons_succ, set_cons_zero, set_cons_succ, zero_add, add_zero, mul_one, zero_mul, m2, m3, m4]
      refine plan_p rfl rfl pr_move ?_
      try simp only [n0, n1, n2, n3, getD_cons_zero, getD_cons_succ, set_cons_zero, set_cons_succ, zero_add, add_zero, mul_one, zero_mul, m2, m3, m4]
      refine plan_callx rfl rfl hH cf26 (fun w' hH => Seal_calls _ _ _ (hP _) _ _ _ _ _ _ w' (hH.blk 2 rfl) (hH.blk 1 rfl) (Sl.cuth (OwnC.sl hH 3 rfl hO28) (by first | omega | (first | (simp only [sealedL_len, List.length_map, List.length_range, List.length_take]; omega) | (simp; omega) | simp))) (nonceL_len nl) (OwnC.sl hH 4 rfl hO100) (OwnC.sl hH 5 rfl hO107) (by simp; omega)) rfl (fun _ _ _ h => by obtain ⟨_, _, _, _, hg, _⟩ := h; exact hg) ?_
      clear hH
      intro w115 v116 w117 hH hp118
      obtain ⟨o119, cap120, cs121, rfl, hg, hO122, hfr⟩ := hp118
      replace hH := hH.callown hg hfr
      clear hg hfr
      try simp only [n0, n1, n2, n3, getD_cons_zero, getD_cons_succ, set_cons_zero, set_cons_succ, zero_add, add_zero, mul_one, zero_mul, m2, m3, m4, m5, m6, m7, Value.cells, arr8_set, arr32_set, arr64_set, arrB_set] at hH ⊢
      try simp only [n0, n1, n2, n3, getD_cons_zero, getD_cons_succ, set_cons_zero, set_cons_succ, zero_add, add_zero, mul_one, zero_mul, m2, m3, m4]
      refine plan_p rfl rfl pr_move ?_
      try simp only [n0, n1, n2, n3, getD_cons_zero, getD_cons_succ, set_cons_zero, set_cons_succ, zero_add, add_zero, mul_one, zero_mul, m2, m3, m4]
      refine plan_p rfl rfl (pr_extract rfl rfl) ?_
      try simp only [n0, n1, n2, n3, getD_cons_zero, getD_cons_succ, set_cons_zero, set_cons_succ, zero_add, add_zero, mul_one, zero_mul, m2, m3, m4]
      refine plan_p rfl rfl (pr_extract rfl rfl) ?_
      try simp only [n0, n1, n2, n3, getD_cons_zero, getD_cons_succ, set_cons_zero, set_cons_succ, zero_add, add_zero, mul_one, zero_mul, m2, m3, m4]
      refine plan_p rfl rfl pr_assign ?_
      try simp only [n0, n1, n2, n3, getD_cons_zero, getD_cons_succ, set_cons_zero, set_cons_succ, zero_add, add_zero, mul_one, zero_mul, m2, m3, m4]
      refine plan_p rfl rfl pr_assign ?_
      try simp only [n0, n1, n2, n3, getD_cons_zero, getD_cons_succ, set_cons_zero, set_cons_succ, zero_add, add_zero, mul_one, zero_mul, m2, m3, m4]
      refine plan_nil hH ?_
      clear hH
      intro w123 hH
      refine hK114 _ _ ?_
      try clear hK114 K114
      refine wp_seq_k ?_
      intro K124 hK124
      refine wp_region_text [.p 0, .q 1, .p 2] rfl ?_
      refine plan_p rfl rfl pr_move ?_
      try simp only [n0, n1, n2, n3, getD_cons_zero, getD_cons_succ, set_cons_zero, set_cons_succ, zero_add, add_zero, mul_one, zero_mul, m2, m3, m4]
      refine plan_q rfl rfl (qr_b2s (OwnC.sl hH 6 rfl hO122) rfl Try.underlying27 Try.underlying5 Try.underlying9) ?_
      try simp only [n0, n1, n2, n3, getD_cons_zero, getD_cons_succ, set_cons_zero, set_cons_succ, zero_add, add_zero, mul_one, zero_mul, m2, m3, m4]
      refine plan_p rfl rfl pr_assign ?_
      try simp only [n0, n1, n2, n3, getD_cons_zero, getD_cons_succ, set_cons_zero, set_cons_succ, zero_add, add_zero, mul_one, zero_mul, m2, m3, m4]
      refine plan_nil hH ?_
      clear hH
      intro w125 hH
      refine hK124 _ _ ?_
      try clear hK124 K124
      refine wp_seq_k ?_
      intro K126 hK126
      refine wp_region_text [.p 0, .p 1, .p 2, .p 3, .x 4, .p 5, .p 6, .p 7, .p 8, .p 9] rfl ?_
      refine plan_p rfl rfl pr_move ?_
      try simp only [n0, n1, n2, n3, getD_cons_zero, getD_cons_succ, set_cons_zero, set_cons_succ, zero_add, add_zero, mul_one, zero_mul, m2, m3, m4]
      refine plan_p rfl rfl pr_move ?_
      try simp only [n0, n1, n2, n3, getD_cons_zero, getD_cons_succ, set_cons_zero, set_cons_succ, zero_add, add_zero, mul_one, zero_mul, m2, m3, m4]
      refine plan_p rfl rfl pr_move ?_
      try simp only [n0, n1, n2, n3, getD_cons_zero, getD_cons_succ, set_cons_zero, set_cons_succ, zero_add, add_zero, mul_one, zero_mul, m2, m3, m4]
      refine plan_p rfl rfl pr_move ?_
      try simp only [n0, n1, n2, n3, getD_cons_zero, getD_cons_succ, set_cons_zero, set_cons_succ, zero_add, add_zero, mul_one, zero_mul, m2, m3, m4]
      refine plan_callx rfl rfl hH cf32 (fun w' hH => Open_calls _ _ _ (hP _) _ _ _ _ _ _ w' (hH.blk 2 rfl) (hH.blk 1 rfl) (Sl.cuth (OwnC.sl hH 3 rfl hO28) (by first | omega | (first | (simp only [sealedL_len, List.length_map, List.length_range, List.length_take]; omega) | (simp; omega) | simp))) (nonceL_len nl) (OwnC.sl hH 4 rfl hO100) (OwnC.sl hH 6 rfl hO122) (by rw [sealedL_len]; simp; omega) (by rw [sealedL_len]; omega) (by rw [sealed_take, sealed_drop])) rfl (fun _ _ _ h => by obtain ⟨_, _, _, _, hg, _⟩ := h; exact hg) ?_
      clear hH
      intro w127 v128 w129 hH hp130
      obtain ⟨o131, cap132, cs133, rfl, hg, hO134, hfr⟩ := hp130
      replace hH := hH.callown hg hfr
      clear hg hfr
      try simp only [n0, n1, n2, n3, getD_cons_zero, getD_cons_succ, set_cons_zero, set_cons_succ, zero_add, add_zero, mul_one, zero_mul, m2, m3, m4, m5, m6, m7, Value.cells, arr8_set, arr32_set, arr64_set, arrB_set] at hH ⊢
      try simp only [n0, n1, n2, n3, getD_cons_zero, getD_cons_succ, set_cons_zero, set_cons_succ, zero_add, add_zero, mul_one, zero_mul, m2, m3, m4]
      refine plan_p rfl rfl pr_move ?_
      try simp only [n0, n1, n2, n3, getD_cons_zero, getD_cons_succ, set_cons_zero, set_cons_succ, zero_add, add_zero, mul_one, zero_mul, m2, m3, m4]
      refine plan_p rfl rfl (pr_extract rfl rfl) ?_
      try simp only [n0, n1, n2, n3, getD_cons_zero, getD_cons_succ, set_cons_zero, set_cons_succ, zero_add, add_zero, mul_one, zero_mul, m2, m3, m4]
      refine plan_p rfl rfl (pr_extract rfl rfl) ?_
      try simp only [n0, n1, n2, n3, getD_cons_zero, getD_cons_succ, set_cons_zero, set_cons_succ, zero_add, add_zero, mul_one, zero_mul, m2, m3, m4]
      refine plan_p rfl rfl pr_assign ?_
      try simp only [n0, n1, n2, n3, getD_cons_zero, getD_cons_succ, set_cons_zero, set_cons_succ, zero_add, add_zero, mul_one, zero_mul, m2, m3, m4]
      refine plan_p rfl rfl pr_assign ?_
      try simp only [n0, n1, n2, n3, getD_cons_zero, getD_cons_succ, set_cons_zero, set_cons_succ, zero_add, add_zero, mul_one, zero_mul, m2, m3, m4]
      refine plan_nil hH ?_
      clear hH
      intro w135 hH
      refine hK126 _ _ ?_
      try clear hK126 K126
      refine wp_seq_k ?_
      intro K136 hK136
      refine wp_region_plan [.p 0, .p 1, .p 2, .p 3, .p 4, .p 5, .p 6, .p 7, .p 9, .q 8, .q 10, .p 11, .p 12, .p 13, .p 14, .p 15, .p 16, .p 17, .p 18, .p 19, .p 20, .p 21, .p 22, .p 24, .q 23, .p 25, .p 26, .p 27, .p 28, .p 30, .p 32, .p 33, .q 29, .q 31, .p 34, .q 35, .p 36, .p 37, .p 38, .p 39, .p 41, .p 43, .p 44, .q 40, .q 42, .p 45, .q 46, .p 47, .p 48, .p 49] (by kernel_rfl) (by kernel_rfl) (by kernel_rfl) (by kernel_rfl) (fun _ _ _ _ _ h => by first | exact h | exact BP.panic _ _ _ _ _ h) ?_
      refine plan_p rfl rfl pr_move ?_
      try simp only [n0, n1, n2, n3, getD_cons_zero, getD_cons_succ, set_cons_zero, set_cons_succ, zero_add, add_zero, mul_one, zero_mul, m2, m3, m4]
      refine plan_p rfl rfl (pr_bin rfl rfl (by first | exact bin_eql_n (n := 0)  | exact bin_eql_i)) ?_
      try simp only [n0, n1, n2, n3, getD_cons_zero, getD_cons_succ, set_cons_zero, set_cons_succ, zero_add, add_zero, mul_one, zero_mul, m2, m3, m4]
      refine plan_p (v := BV true) rfl rfl (pr_move_v rfl) ?_
      try simp only [n0, n1, n2, n3, getD_cons_zero, getD_cons_succ, set_cons_zero, set_cons_succ, zero_add, add_zero, mul_one, zero_mul, m2, m3, m4]
      refine plan_p rfl rfl pr_move ?_
      try simp only [n0, n1, n2, n3, getD_cons_zero, getD_cons_succ, set_cons_zero, set_cons_succ, zero_add, add_zero, mul_one, zero_mul, m2, m3, m4]
      refine plan_p rfl rfl (pr_bin rfl rfl (by first | exact bin_eql_n (n := 0)  | exact bin_eql_i)) ?_
      try simp only [n0, n1, n2, n3, getD_cons_zero, getD_cons_succ, set_cons_zero, set_cons_succ, zero_add, add_zero, mul_one, zero_mul, m2, m3, m4]
      refine plan_p rfl rfl (pr_pick_t rfl) ?_
      try simp only [n0, n1, n2, n3, getD_cons_zero, getD_cons_succ, set_cons_zero, set_cons_succ, zero_add, add_zero, mul_one, zero_mul, m2, m3, m4]
      refine plan_p (v := BV true) rfl rfl (pr_move_v rfl) ?_
      try simp only [n0, n1, n2, n3, getD_cons_zero, getD_cons_succ, set_cons_zero, set_cons_succ, zero_add, add_zero, mul_one, zero_mul, m2, m3, m4]
      refine plan_p rfl rfl pr_move ?_
      try simp only [n0, n1, n2, n3, getD_cons_zero, getD_cons_succ, set_cons_zero, set_cons_succ, zero_add, add_zero, mul_one, zero_mul, m2, m3, m4]
      refine plan_p rfl rfl pr_move ?_
      try simp only [n0, n1, n2, n3, getD_cons_zero, getD_cons_succ, set_cons_zero, set_cons_succ, zero_add, add_zero, mul_one, zero_mul, m2, m3, m4]
      refine plan_q rfl rfl (qr_b2s (OwnC.sl hH 7 rfl hO134) rfl Try.underlying27 Try.underlying5 Try.underlying9) ?_
      try simp only [n0, n1, n2, n3, getD_cons_zero, getD_cons_succ, set_cons_zero, set_cons_succ, zero_add, add_zero, mul_one, zero_mul, m2, m3, m4]
      refine plan_q rfl rfl (qr_b2s (OwnC.sl hH 5 rfl hO107) rfl Try.underlying27 Try.underlying5 Try.underlying9) ?_
      try simp only [n0, n1, n2, n3, getD_cons_zero, getD_cons_succ, set_cons_zero, set_cons_succ, zero_add, add_zero, mul_one, zero_mul, m2, m3, m4]
      refine plan_p rfl rfl (pr_bin rfl rfl bin_eql_s) ?_
      try simp only [n0, n1, n2, n3, getD_cons_zero, getD_cons_succ, set_cons_zero, set_cons_succ, zero_add, add_zero, mul_one, zero_mul, m2, m3, m4]
      refine plan_p rfl rfl (pr_pick_t rfl) ?_
      try simp only [n0, n1, n2, n3, getD_cons_zero, getD_cons_succ, set_cons_zero, set_cons_succ, zero_add, add_zero, mul_one, zero_mul, m2, m3, m4]
      refine plan_p (v := BV true) rfl rfl (pr_move_v (by
      refine congrArg BV (?_ : ((_ : List UInt8) == _) = true)
      rw [beq_iff_eq]
      exact (congrArg (hidL _ _) (sealed_take _ _ _ _ _)).trans (hid_twice _ _ _))) ?_
      try simp only [n0, n1, n2, n3, getD_cons_zero, getD_cons_succ, set_cons_zero, set_cons_succ, zero_add, add_zero, mul_one, zero_mul, m2, m3, m4]
      refine plan_p rfl rfl pr_move ?_
      try simp only [n0, n1, n2, n3, getD_cons_zero, getD_cons_succ, set_cons_zero, set_cons_succ, zero_add, add_zero, mul_one, zero_mul, m2, m3, m4]
      refine plan_p rfl rfl (pr_len_sl rfl Try.underlying27) ?_
      try simp only [n0, n1, n2, n3, getD_cons_zero, getD_cons_succ, set_cons_zero, set_cons_succ, zero_add, add_zero, mul_one, zero_mul, m2, m3, m4]
      refine plan_p rfl rfl pr_move ?_
      try simp only [n0, n1, n2, n3, getD_cons_zero, getD_cons_succ, set_cons_zero, set_cons_succ, zero_add, add_zero, mul_one, zero_mul, m2, m3, m4]
      refine plan_p rfl rfl (pr_len_sl rfl Try.underlying27) ?_
      try simp only [n0, n1, n2, n3, getD_cons_zero, getD_cons_succ, set_cons_zero, set_cons_succ, zero_add, add_zero, mul_one, zero_mul, m2, m3, m4]
      refine plan_p rfl rfl (pr_bin rfl rfl (by first | exact bin_add_n (n := 16) (by first | omega | (first | (simp only [sealedL_len, List.length_map, List.length_range, List.length_take]; omega) | (simp; omega) | simp)) | exact bin_add_i (by first | omega | (first | (simp only [sealedL_len, List.length_map, List.length_range, List.length_take]; omega) | (simp; omega) | simp)) (by first | omega | (first | (simp only [sealedL_len, List.length_map, List.length_range, List.length_take]; omega) | (simp; omega) | simp)))) ?_
      try simp only [n0, n1, n2, n3, getD_cons_zero, getD_cons_succ, set_cons_zero, set_cons_succ, zero_add, add_zero, mul_one, zero_mul, m2, m3, m4]
      refine plan_p rfl rfl (pr_bin rfl rfl (by first | exact bin_eql_n  | exact bin_eql_i)) ?_
      try simp only [n0, n1, n2, n3, getD_cons_zero, getD_cons_succ, set_cons_zero, set_cons_succ, zero_add, add_zero, mul_one, zero_mul, m2, m3, m4]
      refine plan_p rfl rfl (pr_pick_t rfl) ?_
      try simp only [n0, n1, n2, n3, getD_cons_zero, getD_cons_succ, set_cons_zero, set_cons_succ, zero_add, add_zero, mul_one, zero_mul, m2, m3, m4]
      refine plan_p (v := BV true) rfl rfl (pr_move_v (by show BV (_ == _) = _; exact congrArg BV (by simp))) ?_
      try simp only [n0, n1, n2, n3, getD_cons_zero, getD_cons_succ, set_cons_zero, set_cons_succ, zero_add, add_zero, mul_one, zero_mul, m2, m3, m4]
      refine plan_p rfl rfl pr_move ?_
      try simp only [n0, n1, n2, n3, getD_cons_zero, getD_cons_succ, set_cons_zero, set_cons_succ, zero_add, add_zero, mul_one, zero_mul, m2, m3, m4]
      refine plan_p rfl rfl pr_move ?_
      try simp only [n0, n1, n2, n3, getD_cons_zero, getD_cons_succ, set_cons_zero, set_cons_succ, zero_add, add_zero, mul_one, zero_mul, m2, m3, m4]
      refine plan_q rfl rfl (qr_b2s (OwnC.sl hH 6 rfl hO122) rfl Try.underlying27 Try.underlying5 Try.underlying9) ?_
      try simp only [n0, n1, n2, n3, getD_cons_zero, getD_cons_succ, set_cons_zero, set_cons_succ, zero_add, add_zero, mul_one, zero_mul, m2, m3, m4]
      refine plan_p rfl rfl (pr_bin rfl rfl bin_eql_s) ?_
      try simp only [n0, n1, n2, n3, getD_cons_zero, getD_cons_succ, set_cons_zero, set_cons_succ, zero_add, add_zero, mul_one, zero_mul, m2, m3, m4]
      refine plan_p rfl rfl (pr_pick_t rfl) ?_
      try simp only [n0, n1, n2, n3, getD_cons_zero, getD_cons_succ, set_cons_zero, set_cons_succ, zero_add, add_zero, mul_one, zero_mul, m2, m3, m4]
      refine plan_p (v := BV true) rfl rfl (pr_move_v (by show BV (_ == _) = _; exact congrArg BV (beq_self_eq_true _))) ?_
      try simp only [n0, n1, n2, n3, getD_cons_zero, getD_cons_succ, set_cons_zero, set_cons_succ, zero_add, add_zero, mul_one, zero_mul, m2, m3, m4]
      refine plan_p rfl rfl pr_move ?_
      try simp only [n0, n1, n2, n3, getD_cons_zero, getD_cons_succ, set_cons_zero, set_cons_succ, zero_add, add_zero, mul_one, zero_mul, m2, m3, m4]
      refine plan_p rfl rfl (pr_fieldAddr 17 rfl Try.underlying48 rfl rfl sz27) ?_
      try simp only [n0, n1, n2, n3, getD_cons_zero, getD_cons_succ, set_cons_zero, set_cons_succ, zero_add, add_zero, mul_one, zero_mul, m2, m3, m4]
      refine plan_p rfl rfl pr_move ?_
      try simp only [n0, n1, n2, n3, getD_cons_zero, getD_cons_succ, set_cons_zero, set_cons_succ, zero_add, add_zero, mul_one, zero_mul, m2, m3, m4]
      refine plan_p rfl rfl (pr_len_sl rfl Try.underlying27) ?_
      try simp only [n0, n1, n2, n3, getD_cons_zero, getD_cons_succ, set_cons_zero, set_cons_succ, zero_add, add_zero, mul_one, zero_mul, m2, m3, m4]
      refine plan_q rfl rfl (qr_b2s (OwnC.sl hH 4 rfl hO100) rfl Try.underlying27 Try.underlying5 Try.underlying9) ?_
      try simp only [n0, n1, n2, n3, getD_cons_zero, getD_cons_succ, set_cons_zero, set_cons_succ, zero_add, add_zero, mul_one, zero_mul, m2, m3, m4]
      refine plan_q rfl rfl (qr_load1 rfl Try.underlying27 rfl ((hH.blk 0 rfl).cell letterC_side)) ?_
      try simp only [n0, n1, n2, n3, getD_cons_zero, getD_cons_succ, set_cons_zero, set_cons_succ, zero_add, add_zero, mul_one, zero_mul, m2, m3, m4]
      refine plan_p rfl rfl (pr_slice_Sl_h (ha.chg hH.chg) rfl rfl Try.underlying27 sz5 (by first | omega | (first | (simp only [sealedL_len, List.length_map, List.length_range, List.length_take]; omega) | (simp; omega) | simp))) ?_
      try simp only [n0, n1, n2, n3, getD_cons_zero, getD_cons_succ, set_cons_zero, set_cons_succ, zero_add, add_zero, mul_one, zero_mul, m2, m3, m4]
      refine plan_q rfl rfl (qr_b2s (Sl.cuth (ha.chg hH.chg) (by first | omega | (first | (simp only [sealedL_len, List.length_map, List.length_range, List.length_take]; omega) | (simp; omega) | simp))) rfl Try.underlying27 Try.underlying5 Try.underlying9) ?_
      try simp only [n0, n1, n2, n3, getD_cons_zero, getD_cons_succ, set_cons_zero, set_cons_succ, zero_add, add_zero, mul_one, zero_mul, m2, m3, m4]
      refine plan_p rfl rfl (pr_bin rfl rfl bin_eql_s) ?_
      try simp only [n0, n1, n2, n3, getD_cons_zero, getD_cons_succ, set_cons_zero, set_cons_succ, zero_add, add_zero, mul_one, zero_mul, m2, m3, m4]
      refine plan_p rfl rfl (pr_pick_t rfl) ?_
      try simp only [n0, n1, n2, n3, getD_cons_zero, getD_cons_succ, set_cons_zero, set_cons_succ, zero_add, add_zero, mul_one, zero_mul, m2, m3, m4]
      refine plan_p (v := BV true) rfl rfl (pr_move_v (by
      refine congrArg BV (?_ : ((_ : List UInt8) == _) = true)
      rw [beq_iff_eq]
      exact (take_take_len _ _).symm)) ?_
      try simp only [n0, n1, n2, n3, getD_cons_zero, getD_cons_succ, set_cons_zero, set_cons_succ, zero_add, add_zero, mul_one, zero_mul, m2, m3, m4]
      refine plan_p rfl rfl pr_move ?_
      try simp only [n0, n1, n2, n3, getD_cons_zero, getD_cons_succ, set_cons_zero, set_cons_succ, zero_add, add_zero, mul_one, zero_mul, m2, m3, m4]
      refine plan_p rfl rfl (pr_fieldAddr 18 rfl Try.underlying48 rfl rfl sz27) ?_
      try simp only [n0, n1, n2, n3, getD_cons_zero, getD_cons_succ, set_cons_zero, set_cons_succ, zero_add, add_zero, mul_one, zero_mul, m2, m3, m4]
      refine plan_p rfl rfl pr_move ?_
      try simp only [n0, n1, n2, n3, getD_cons_zero, getD_cons_succ, set_cons_zero, set_cons_succ, zero_add, add_zero, mul_one, zero_mul, m2, m3, m4]
      refine plan_p rfl rfl (pr_len_sl rfl Try.underlying27) ?_
      try simp only [n0, n1, n2, n3, getD_cons_zero, getD_cons_succ, set_cons_zero, set_cons_succ, zero_add, add_zero, mul_one, zero_mul, m2, m3, m4]
      refine plan_q rfl rfl (qr_b2s (OwnC.sl hH 5 rfl hO107) rfl Try.underlying27 Try.underlying5 Try.underlying9) ?_
      try simp only [n0, n1, n2, n3, getD_cons_zero, getD_cons_succ, set_cons_zero, set_cons_succ, zero_add, add_zero, mul_one, zero_mul, m2, m3, m4]
      refine plan_q rfl rfl (qr_load1 rfl Try.underlying27 rfl ((hH.blk 0 rfl).cell letterC_bytes)) ?_
      try simp only [n0, n1, n2, n3, getD_cons_zero, getD_cons_succ, set_cons_zero, set_cons_succ, zero_add, add_zero, mul_one, zero_mul, m2, m3, m4]
      refine plan_p rfl rfl (pr_slice_Sl_h (hb.chg hH.chg) rfl rfl Try.underlying27 sz5 (by first | omega | (first | (simp only [sealedL_len, List.length_map, List.length_range, List.length_take]; omega) | (simp; omega) | simp))) ?_
      try simp only [n0, n1, n2, n3, getD_cons_zero, getD_cons_succ, set_cons_zero, set_cons_succ, zero_add, add_zero, mul_one, zero_mul, m2, m3, m4]
      refine plan_q rfl rfl (qr_b2s (Sl.cuth (hb.chg hH.chg) (by first | omega | (first | (simp only [sealedL_len, List.length_map, List.length_range, List.length_take]; omega) | (simp; omega) | simp))) rfl Try.underlying27 Try.underlying5 Try.underlying9) ?_
      try simp only [n0, n1, n2, n3, getD_cons_zero, getD_cons_succ, set_cons_zero, set_cons_succ, zero_add, add_zero, mul_one, zero_mul, m2, m3, m4]
      refine plan_p rfl rfl (pr_bin rfl rfl bin_eql_s) ?_
      try simp only [n0, n1, n2, n3, getD_cons_zero, getD_cons_succ, set_cons_zero, set_cons_succ, zero_add, add_zero, mul_one, zero_mul, m2, m3, m4]
      refine plan_p rfl rfl (pr_pick_t rfl) ?_
      try simp only [n0, n1, n2, n3, getD_cons_zero, getD_cons_succ, set_cons_zero, set_cons_succ, zero_add, add_zero, mul_one, zero_mul, m2, m3, m4]
      refine plan_p rfl rfl pr_assign ?_
      try simp only [n0, n1, n2, n3, getD_cons_zero, getD_cons_succ, set_cons_zero, set_cons_succ, zero_add, add_zero, mul_one, zero_mul, m2, m3, m4]
      refine plan_nil hH ?_
      clear hH
      intro w137 hH
      refine hK136 _ _ ?_
      try clear hK136 K136
      refine wp_ret ?_
      try simp only [Exit.then, Exit.inBlock, ↓reduceIte, Nat.reduceEqDiff]
      refine BP.ret1 rfl rfl ?_
      exact ⟨congrArg BV (beq_iff_eq.2 (take_take_len _ _).symm), hH.chg⟩
  ·
    refine plan_buildSliceN rfl rfl hNw35 hH Try.underlying27 (by rfl) (bs0 ) ?_
    clear hH
    intro b138 w139 hNw140 hNo141 hH
    try simp only [n0, n1, n2, n3, getD_cons_zero, getD_cons_succ, set_cons_zero, set_cons_succ, zero_add, add_zero, mul_one, zero_mul, m2, m3, m4, m5, m6, m7, Value.cells, arr8_set, arr32_set, arr64_set, arrB_set] at hH ⊢
    refine plan_nilN hNw140 hH ?_
    clear hH
    intro w142 hNw143 hH
    refine Pend.plan (n := 0) (Far.chgN N31) (by kernel_rfl) (fun _ _ _ _ _ h => by first | exact h | exact BP.panic _ _ _ _ _ h) [.x 0, .s 8 (ChgN N31), .s 17 (ChgN N31), .p 18, .p 19] [9, 16, 15, 14, 13, 11, 7, 6, 5, 4, 2, 12, 10, 3, 1] _ _ (by simp [AllR]) (by simp [effects]) (by simp [marked]) (by kernel_rfl) ?_
    refine plan_buildSliceN rfl rfl hNw143 hH Try.underlying27 (by rfl) (bs0 ) ?_
    clear hH
    intro b144 w145 hNw146 hNo147 hH
    try simp only [n0, n1, n2, n3, getD_cons_zero, getD_cons_succ, set_cons_zero, set_cons_succ, zero_add, add_zero, mul_one, zero_mul, m2, m3, m4, m5, m6, m7, Value.cells, arr8_set, arr32_set, arr64_set, arrB_set] at hH ⊢
    refine plan_appendN 5 rfl rfl hNw146 (fun b hb => by cases hb; exact hNo147) hH rfl (OwnC.of_bytes rfl) (fun w' hH => ((Sl.cuth (ha.chg hH.chg) (by first | omega | (first | (simp only [sealedL_len, List.length_map, List.length_range, List.length_take]; omega) | (simp; omega) | simp)))).src) rfl rfl Try.underlying27 Try.underlying27 (.inl ⟨_, rfl⟩) sz5 bz5 ze5 rfl (by first | omega | (simp <;> omega)) (by first | omega | (simp <;> omega)) ?_
    clear hH
    intro o148 cap149 cs150 w151 hO152 hNw153 hNo154 hH
    try simp only [n0, n1, n2, n3, getD_cons_zero, getD_cons_succ, set_cons_zero, set_cons_succ, zero_add, add_zero, mul_one, zero_mul, m2, m3, m4] at hH ⊢
    try simp only [n0, n1, n2, n3, getD_cons_zero, getD_cons_succ, set_cons_zero, set_cons_succ, zero_add, add_zero, mul_one, zero_mul, m2, m3, m4, m5, m6, m7, Value.cells, arr8_set, arr32_set, arr64_set, arrB_set] at hH ⊢
    try rw [← List.map_append] at hO152
    try simp only [Nat.zero_add, List.nil_append, List.length_nil] at hO152 ⊢
    refine plan_appendN 4 rfl rfl hNw153 (fun b hb => by cases hb; exact hNo141) hH rfl (OwnC.of_bytes rfl) (fun w' hH => ((Sl.cuth (hb.chg hH.chg) (by first | omega | (first | (simp only [sealedL_len, List.length_map, List.length_range, List.length_take]; omega) | (simp; omega) | simp)))).src) rfl rfl Try.underlying27 Try.underlying27 (.inl ⟨_, rfl⟩) sz5 bz5 ze5 rfl (by first | omega | (simp <;> omega)) (by first | omega | (simp <;> omega)) ?_
    clear hH
    intro o155 cap156 cs157 w158 hO159 hNw160 hNo161 hH
    try simp only [n0, n1, n2, n3, getD_cons_zero, getD_cons_succ, set_cons_zero, set_cons_succ, zero_add, add_zero, mul_one, zero_mul, m2, m3, m4] at hH ⊢
    try simp only [n0, n1, n2, n3, getD_cons_zero, getD_cons_succ, set_cons_zero, set_cons_succ, zero_add, add_zero, mul_one, zero_mul, m2, m3, m4, m5, m6, m7, Value.cells, arr8_set, arr32_set, arr64_set, arrB_set] at hH ⊢
    try rw [← List.map_append] at hO159
    try simp only [Nat.zero_add, List.nil_append, List.length_nil] at hO159 ⊢
    refine plan_p rfl rfl pr_assign ?_
    try simp only [n0, n1, n2, n3, getD_cons_zero, getD_cons_succ, set_cons_zero, set_cons_succ, zero_add, add_zero, mul_one, zero_mul, m2, m3, m4]
    refine plan_p rfl rfl pr_assign ?_
    try simp only [n0, n1, n2, n3, getD_cons_zero, getD_cons_succ, set_cons_zero, set_cons_succ, zero_add, add_zero, mul_one, zero_mul, m2, m3, m4]
    refine plan_nilN hNw160 hH ?_
    clear hH
    intro w162 hNw163 hH
    refine Pend.done (by kernel_rfl) ?_
    intro w164 hw165
    replace hH := hH.call hw165; clear hw165
    refine hK30 _ _ ?_
    try clear hK30 K30
    refine wp_seq_k ?_
    intro K166 hK166
    refine wp_region_text [.p 0, .p 1, .p 2, .p 3, .x 4, .p 5, .p 6, .p 7, .p 8, .p 9] rfl ?_
    refine plan_p rfl rfl pr_move ?_
    try simp only [n0, n1, n2, n3, getD_cons_zero, getD_cons_succ, set_cons_zero, set_cons_succ, zero_add, add_zero, mul_one, zero_mul, m2, m3, m4]
    refine plan_p rfl rfl pr_move ?_
    try simp only [n0, n1, n2, n3, getD_cons_zero, getD_cons_succ, set_cons_zero, set_cons_succ, zero_add, add_zero, mul_one, zero_mul, m2, m3, m4]
    refine plan_p rfl rfl pr_move ?_
    try simp only [n0, n1, n2, n3, getD_cons_zero, getD_cons_succ, set_cons_zero, set_cons_succ, zero_add, add_zero, mul_one, zero_mul, m2, m3, m4]
    refine plan_p rfl rfl pr_move ?_
    try simp only [n0, n1, n2, n3, getD_cons_zero, getD_cons_succ, set_cons_zero, set_cons_succ, zero_add, add_zero, mul_one, zero_mul, m2, m3, m4]
    refine plan_callx rfl rfl hH cf26 (fun w' hH => Seal_calls _ _ _ (hP _) _ _ _ _ _ _ w' (hH.blk 2 rfl) (hH.blk 1 rfl) (Sl.cuth (OwnC.sl hH 3 rfl hO28) (by first | omega | (first | (simp only [sealedL_len, List.length_map, List.length_range, List.length_take]; omega) | (simp; omega) | simp))) (nonceL_len nl) (OwnC.sl hH 5 rfl hO152) (OwnC.sl hH 4 rfl hO159) (by simp; omega)) rfl (fun _ _ _ h => by obtain ⟨_, _, _, _, hg, _⟩ := h; exact hg) ?_
    clear hH
    intro w167 v168 w169 hH hp170
    obtain ⟨o171, cap172, cs173, rfl, hg, hO174, hfr⟩ := hp170
    replace hH := hH.callown hg hfr
    clear hg hfr
    try simp only [n0, n1, n2, n3, getD_cons_zero, getD_cons_succ, set_cons_zero, set_cons_succ, zero_add, add_zero, mul_one, zero_mul, m2, m3, m4, m5, m6, m7, Value.cells, arr8_set, arr32_set, arr64_set, arrB_set] at hH ⊢
    try simp only [n0, n1, n2, n3, getD_cons_zero, getD_cons_succ, set_cons_zero, set_cons_succ, zero_add, add_zero, mul_one, zero_mul, m2, m3, m4]
    refine plan_p rfl rfl pr_move ?_
    try simp only [n0, n1, n2, n3, getD_cons_zero, getD_cons_succ, set_cons_zero, set_cons_succ, zero_add, add_zero, mul_one, zero_mul, m2, m3, m4]
    refine plan_p rfl rfl (pr_extract rfl rfl) ?_
    try simp only [n0, n1, n2, n3, getD_cons_zero, getD_cons_succ, set_cons_zero, set_cons_succ, zero_add, add_zero, mul_one, zero_mul, m2, m3, m4]
    refine plan_p rfl rfl (pr_extract rfl rfl) ?_
    try simp only [n0, n1, n2, n3, getD_cons_zero, getD_cons_succ, set_cons_zero, set_cons_succ, zero_add, add_zero, mul_one, zero_mul, m2, m3, m4]
    refine plan_p rfl rfl pr_assign ?_
    try simp only [n0, n1, n2, n3, getD_cons_zero, getD_cons_succ, set_cons_zero, set_cons_succ, zero_add, add_zero, mul_one, zero_mul, m2, m3, m4]
    refine plan_p rfl rfl pr_assign ?_
    try simp only [n0, n1, n2, n3, getD_cons_zero, getD_cons_succ, set_cons_zero, set_cons_succ, zero_add, add_zero, mul_one, zero_mul, m2, m3, m4]
    refine plan_nil hH ?_
    clear hH
    intro w175 hH
    refine hK166 _ _ ?_
    try clear hK166 K166
    refine wp_seq_k ?_
    intro K176 hK176
    refine wp_region_text [.p 0, .q 1, .p 2] rfl ?_
    refine plan_p rfl rfl pr_move ?_
    try simp only [n0, n1, n2, n3, getD_cons_zero, getD_cons_succ, set_cons_zero, set_cons_succ, zero_add, add_zero, mul_one, zero_mul, m2, m3, m4]
    refine plan_q rfl rfl (qr_b2s (OwnC.sl hH 6 rfl hO174) rfl Try.underlying27 Try.underlying5 Try.underlying9) ?_
    try simp only [n0, n1, n2, n3, getD_cons_zero, getD_cons_succ, set_cons_zero, set_cons_succ, zero_add, add_zero, mul_one, zero_mul, m2, m3, m4]
    refine plan_p rfl rfl pr_assign ?_
    try simp only [n0, n1, n2, n3, getD_cons_zero, getD_cons_succ, set_cons_zero, set_cons_succ, zero_add, add_zero, mul_one, zero_mul, m2, m3, m4]
    refine plan_nil hH ?_
    clear hH
    intro w177 hH
    refine hK176 _ _ ?_
    try clear hK176 K176
    refine wp_seq_k ?_
    intro K178 hK178
    refine wp_region_text [.p 0, .p 1, .p 2, .p 3, .x 4, .p 5, .p 6, .p 7, .p 8, .p 9] rfl ?_
    refine plan_p rfl rfl pr_move ?_
    try simp only [n0, n1, n2, n3, getD_cons_zero, getD_cons_succ, set_cons_zero, set_cons_succ, zero_add, add_zero, mul_one, zero_mul, m2, m3, m4]
    refine plan_p rfl rfl pr_move ?_
    try simp only [n0, n1, n2, n3, getD_cons_zero, getD_cons_succ, set_cons_zero, set_cons_succ, zero_add, add_zero, mul_one, zero_mul, m2, m3, m4]
    refine plan_p rfl rfl pr_move ?_
    try simp only [n0, n1, n2, n3, getD_cons_zero, getD_cons_succ, set_cons_zero, set_cons_succ, zero_add, add_zero, mul_one, zero_mul, m2, m3, m4]
    refine plan_p rfl rfl pr_move ?_
    try simp only [n0, n1, n2, n3, getD_cons_zero, getD_cons_succ, set_cons_zero, set_cons_succ, zero_add, add_zero, mul_one, zero_mul, m2, m3, m4]
    refine plan_callx rfl rfl hH cf32 (fun w' hH => Open_calls _ _ _ (hP _) _ _ _ _ _ _ w' (hH.blk 2 rfl) (hH.blk 1 rfl) (Sl.cuth (OwnC.sl hH 3 rfl hO28) (by first | omega | (first | (simp only [sealedL_len, List.length_map, List.length_range, List.length_take]; omega) | (simp; omega) | simp))) (nonceL_len nl) (OwnC.sl hH 5 rfl hO152) (OwnC.sl hH 6 rfl hO174) (by rw [sealedL_len]; simp; omega) (by rw [sealedL_len]; omega) (by rw [sealed_take, sealed_drop])) rfl (fun _ _ _ h => by obtain ⟨_, _, _, _, hg, _⟩ := h; exact hg) ?_
    clear hH
    intro w179 v180 w181 hH hp182
    obtain ⟨o183, cap184, cs185, rfl, hg, hO186, hfr⟩ := hp182
    replace hH := hH.callown hg hfr
    clear hg hfr
    try simp only [n0, n1, n2, n3, getD_cons_zero, getD_cons_succ, set_cons_zero, set_cons_succ, zero_add, add_zero, mul_one, zero_mul, m2, m3, m4, m5, m6, m7, Value.cells, arr8_set, arr32_set, arr64_set, arrB_set] at hH ⊢
    try simp only [n0, n1, n2, n3, getD_cons_zero, getD_cons_succ, set_cons_zero, set_cons_succ, zero_add, add_zero, mul_one, zero_mul, m2, m3, m4]
    refine plan_p rfl rfl pr_move ?_
    try simp only [n0, n1, n2, n3, getD_cons_zero, getD_cons_succ, set_cons_zero, set_cons_succ, zero_add, add_zero, mul_one, zero_mul, m2, m3, m4]
    refine plan_p rfl rfl (pr_extract rfl rfl) ?_
    try simp only [n0, n1, n2, n3, getD_cons_zero, getD_cons_succ, set_cons_zero, set_cons_succ, zero_add, add_zero, mul_one, zero_mul, m2, m3, m4]
    refine plan_p rfl rfl (pr_extract rfl rfl) ?_
    try simp only [n0, n1, n2, n3, getD_cons_zero, getD_cons_succ, set_cons_zero, set_cons_succ, zero_add, add_zero, mul_one, zero_mul, m2, m3, m4]
    refine plan_p rfl rfl pr_assign ?_
    try simp only [n0, n1, n2, n3, getD_cons_zero, getD_cons_succ, set_cons_zero, set_cons_succ, zero_add, add_zero, mul_one, zero_mul, m2, m3, m4]
    refine plan_p rfl rfl pr_assign ?_
    try simp only [n0, n1, n2, n3, getD_cons_zero, getD_cons_succ, set_cons_zero, set_cons_succ, zero_add, add_zero, mul_one, zero_mul, m2, m3, m4]
    refine plan_nil hH ?_
    clear hH
    intro w187 hH
    refine hK178 _ _ ?_
    try clear hK178 K178
    refine wp_seq_k ?_
    intro K188 hK188
    refine wp_region_plan [.p 0, .p 1, .p 2, .p 3, .p 4, .p 5, .p 6, .p 7, .p 9, .q 8, .q 10, .p 11, .p 12, .p 13, .p 14, .p 15, .p 16, .p 17, .p 18, .p 19, .p 20, .p 21, .p 22, .p 24, .q 23, .p 25, .p 26, .p 27, .p 28, .p 30, .p 32, .p 33, .q 29, .q 31, .p 34, .q 35, .p 36, .p 37, .p 38, .p 39, .p 41, .p 43, .p 44, .q 40, .q 42, .p 45, .q 46, .p 47, .p 48, .p 49] (by kernel_rfl) (by kernel_rfl) (by kernel_rfl) (by kernel_rfl) (fun _ _ _ _ _ h => by first | exact h | exact BP.panic _ _ _ _ _ h) ?_
    refine plan_p rfl rfl pr_move ?_
    try simp only [n0, n1, n2, n3, getD_cons_zero, getD_cons_succ, set_cons_zero, set_cons_succ, zero_add, add_zero, mul_one, zero_mul, m2, m3, m4]
    refine plan_p rfl rfl (pr_bin rfl rfl (by first | exact bin_eql_n (n := 0)  | exact bin_eql_i)) ?_
    try simp only [n0, n1, n2, n3, getD_cons_zero, getD_cons_succ, set_cons_zero, set_cons_succ, zero_add, add_zero, mul_one, zero_mul, m2, m3, m4]
    refine plan_p (v := BV true) rfl rfl (pr_move_v rfl) ?_
    try simp only [n0, n1, n2, n3, getD_cons_zero, getD_cons_succ, set_cons_zero, set_cons_succ, zero_add, add_zero, mul_one, zero_mul, m2, m3, m4]
    refine plan_p rfl rfl pr_move ?_
    try simp only [n0, n1, n2, n3, getD_cons_zero, getD_cons_succ, set_cons_zero, set_cons_succ, zero_add, add_zero, mul_one, zero_mul, m2, m3, m4]
    refine plan_p rfl rfl (pr_bin rfl rfl (by first | exact bin_eql_n (n := 0)  | exact bin_eql_i)) ?_
    try simp only [n0, n1, n2, n3, getD_cons_zero, getD_cons_succ, set_cons_zero, set_cons_succ, zero_add, add_zero, mul_one, zero_mul, m2, m3, m4]
    refine plan_p rfl rfl (pr_pick_t rfl) ?_
    try simp only [n0, n1, n2, n3, getD_cons_zero, getD_cons_succ, set_cons_zero, set_cons_succ, zero_add, add_zero, mul_one, zero_mul, m2, m3, m4]
    refine plan_p (v := BV true) rfl rfl (pr_move_v rfl) ?_
    try simp only [n0, n1, n2, n3, getD_cons_zero, getD_cons_succ, set_cons_zero, set_cons_succ, zero_add, add_zero, mul_one, zero_mul, m2, m3, m4]
    refine plan_p rfl rfl pr_move ?_
    try simp only [n0, n1, n2, n3, getD_cons_zero, getD_cons_succ, set_cons_zero, set_cons_succ, zero_add, add_zero, mul_one, zero_mul, m2, m3, m4]
    refine plan_p rfl rfl pr_move ?_
    try simp only [n0, n1, n2, n3, getD_cons_zero, getD_cons_succ, set_cons_zero, set_cons_succ, zero_add, add_zero, mul_one, zero_mul, m2, m3, m4]
    refine plan_q rfl rfl (qr_b2s (OwnC.sl hH 7 rfl hO186) rfl Try.underlying27 Try.underlying5 Try.underlying9) ?_
    try simp only [n0, n1, n2, n3, getD_cons_zero, getD_cons_succ, set_cons_zero, set_cons_succ, zero_add, add_zero, mul_one, zero_mul, m2, m3, m4]
    refine plan_q rfl rfl (qr_b2s (OwnC.sl hH 4 rfl hO159) rfl Try.underlying27 Try.underlying5 Try.underlying9) ?_
    try simp only [n0, n1, n2, n3, getD_cons_zero, getD_cons_succ, set_cons_zero, set_cons_succ, zero_add, add_zero, mul_one, zero_mul, m2, m3, m4]
    refine plan_p rfl rfl (pr_bin rfl rfl bin_eql_s) ?_
    try simp only [n0, n1, n2, n3, getD_cons_zero, getD_cons_succ, set_cons_zero, set_cons_succ, zero_add, add_zero, mul_one, zero_mul, m2, m3, m4]
    refine plan_p rfl rfl (pr_pick_t rfl) ?_
    try simp only [n0, n1, n2, n3, getD_cons_zero, getD_cons_succ, set_cons_zero, set_cons_succ, zero_add, add_zero, mul_one, zero_mul, m2, m3, m4]
    refine plan_p (v := BV true) rfl rfl (pr_move_v (by
      refine congrArg BV (?_ : ((_ : List UInt8) == _) = true)
      rw [beq_iff_eq]
      exact (congrArg (hidL _ _) (sealed_take _ _ _ _ _)).trans (hid_twice _ _ _))) ?_
    try simp only [n0, n1, n2, n3, getD_cons_zero, getD_cons_succ, set_cons_zero, set_cons_succ, zero_add, add_zero, mul_one, zero_mul, m2, m3, m4]
    refine plan_p rfl rfl pr_move ?_
    try simp only [n0, n1, n2, n3, getD_cons_zero, getD_cons_succ, set_cons_zero, set_cons_succ, zero_add, add_zero, mul_one, zero_mul, m2, m3, m4]
    refine plan_p rfl rfl (pr_len_sl rfl Try.underlying27) ?_
    try simp only [n0, n1, n2, n3, getD_cons_zero, getD_cons_succ, set_cons_zero, set_cons_succ, zero_add, add_zero, mul_one, zero_mul, m2, m3, m4]
    refine plan_p rfl rfl pr_move ?_
    try simp only [n0, n1, n2, n3, getD_cons_zero, getD_cons_succ, set_cons_zero, set_cons_succ, zero_add, add_zero, mul_one, zero_mul, m2, m3, m4]
    refine plan_p rfl rfl (pr_len_sl rfl Try.underlying27) ?_
    try simp only [n0, n1, n2, n3, getD_cons_zero, getD_cons_succ, set_cons_zero, set_cons_succ, zero_add, add_zero, mul_one, zero_mul, m2, m3, m4]
    refine plan_p rfl rfl (pr_bin rfl rfl (by first | exact bin_add_n (n := 16) (by first | omega | (first | (simp only [sealedL_len, List.length_map, List.length_range, List.length_take]; omega) | (simp; omega) | simp)) | exact bin_add_i (by first | omega | (first | (simp only [sealedL_len, List.length_map, List.length_range, List.length_take]; omega) | (simp; omega) | simp)) (by first | omega | (first | (simp only [sealedL_len, List.length_map, List.length_range, List.length_take]; omega) | (simp; omega) | simp)))) ?_
    try simp only [n0, n1, n2, n3, getD_cons_zero, getD_cons_succ, set_cons_zero, set_cons_succ, zero_add, add_zero, mul_one, zero_mul, m2, m3, m4]
    refine plan_p rfl rfl (pr_bin rfl rfl (by first | exact bin_eql_n  | exact bin_eql_i)) ?_
    try simp only [n0, n1, n2, n3, getD_cons_zero, getD_cons_succ, set_cons_zero, set_cons_succ, zero_add, add_zero, mul_one, zero_mul, m2, m3, m4]
    refine plan_p rfl rfl (pr_pick_t rfl) ?_
    try simp only [n0, n1, n2, n3, getD_cons_zero, getD_cons_succ, set_cons_zero, set_cons_succ, zero_add, add_zero, mul_one, zero_mul, m2, m3, m4]
    refine plan_p (v := BV true) rfl rfl (pr_move_v (by show BV (_ == _) = _; exact congrArg BV (by simp))) ?_
    try simp only [n0, n1, n2, n3, getD_cons_zero, getD_cons_succ, set_cons_zero, set_cons_succ, zero_add, add_zero, mul_one, zero_mul, m2, m3, m4]
    refine plan_p rfl rfl pr_move ?_
    try simp only [n0, n1, n2, n3, getD_cons_zero, getD_cons_succ, set_cons_zero, set_cons_succ, zero_add, add_zero, mul_one, zero_mul, m2, m3, m4]
    refine plan_p rfl rfl pr_move ?_
    try simp only [n0, n1, n2, n3, getD_cons_zero, getD_cons_succ, set_cons_zero, set_cons_succ, zero_add, add_zero, mul_one, zero_mul, m2, m3, m4]
    refine plan_q rfl rfl (qr_b2s (OwnC.sl hH 6 rfl hO174) rfl Try.underlying27 Try.underlying5 Try.underlying9) ?_
    try simp only [n0, n1, n2, n3, getD_cons_zero, getD_cons_succ, set_cons_zero, set_cons_succ, zero_add, add_zero, mul_one, zero_mul, m2, m3, m4]
    refine plan_p rfl rfl (pr_bin rfl rfl bin_eql_s) ?_
    try simp only [n0, n1, n2, n3, getD_cons_zero, getD_cons_succ, set_cons_zero, set_cons_succ, zero_add, add_zero, mul_one, zero_mul, m2, m3, m4]
    refine plan_p rfl rfl (pr_pick_t rfl) ?_
    try simp only [n0, n1, n2, n3, getD_cons_zero, getD_cons_succ, set_cons_zero, set_cons_succ, zero_add, add_zero, mul_one, zero_mul, m2, m3, m4]
    refine plan_p (v := BV true) rfl rfl (pr_move_v (by show BV (_ == _) = _; exact congrArg BV (beq_self_eq_true _))) ?_
    try simp only [n0, n1, n2, n3, getD_cons_zero, getD_cons_succ, set_cons_zero, set_cons_succ, zero_add, add_zero, mul_one, zero_mul, m2, m3, m4]
    refine plan_p rfl rfl pr_move ?_
    try simp only [n0, n1, n2, n3, getD_cons_zero, getD_cons_succ, set_cons_zero, set_cons_succ, zero_add, add_zero, mul_one, zero_mul, m2, m3, m4]
    refine plan_p rfl rfl (pr_fieldAddr 17 rfl Try.underlying48 rfl rfl sz27) ?_
    try simp only [n0, n1, n2, n3, getD_cons_zero, getD_cons_succ, set_cons_zero, set_cons_succ, zero_add, add_zero, mul_one, zero_mul, m2, m3, m4]
    refine plan_p rfl rfl pr_move ?_
    try simp only [n0, n1, n2, n3, getD_cons_zero, getD_cons_succ, set_cons_zero, set_cons_succ, zero_add, add_zero, mul_one, zero_mul, m2, m3, m4]
    refine plan_p rfl rfl (pr_len_sl rfl Try.underlying27) ?_
    try simp only [n0, n1, n2, n3, getD_cons_zero, getD_cons_succ, set_cons_zero, set_cons_succ, zero_add, add_zero, mul_one, zero_mul, m2, m3, m4]
    refine plan_q rfl rfl (qr_b2s (OwnC.sl hH 5 rfl hO152) rfl Try.underlying27 Try.underlying5 Try.underlying9) ?_
    try simp only [n0, n1, n2, n3, getD_cons_zero, getD_cons_succ, set_cons_zero, set_cons_succ, zero_add, add_zero, mul_one, zero_mul, m2, m3, m4]
    refine plan_q rfl rfl (qr_load1 rfl Try.underlying27 rfl ((hH.blk 0 rfl).cell letterC_side)) ?_
    try simp only [n0, n1, n2, n3, getD_cons_zero, getD_cons_succ, set_cons_zero, set_cons_succ, zero_add, add_zero, mul_one, zero_mul, m2, m3, m4]
    refine plan_p rfl rfl (pr_slice_Sl_h (ha.chg hH.chg) rfl rfl Try.underlying27 sz5 (by first | omega | (first | (simp only [sealedL_len, List.length_map, List.length_range, List.length_take]; omega) | (simp; omega) | simp))) ?_
    try simp only [n0, n1, n2, n3, getD_cons_zero, getD_cons_succ, set_cons_zero, set_cons_succ, zero_add, add_zero, mul_one, zero_mul, m2, m3, m4]
    refine plan_q rfl rfl (qr_b2s (Sl.cuth (ha.chg hH.chg) (by first | omega | (first | (simp only [sealedL_len, List.length_map, List.length_range, List.length_take]; omega) | (simp; omega) | simp))) rfl Try.underlying27 Try.underlying5 Try.underlying9) ?_
    try simp only [n0, n1, n2, n3, getD_cons_zero, getD_cons_succ, set_cons_zero, set_cons_succ, zero_add, add_zero, mul_one, zero_mul, m2, m3, m4]
    refine plan_p rfl rfl (pr_bin rfl rfl bin_eql_s) ?_
    try simp only [n0, n1, n2, n3, getD_cons_zero, getD_cons_succ, set_cons_zero, set_cons_succ, zero_add, add_zero, mul_one, zero_mul, m2, m3, m4]
    refine plan_p rfl rfl (pr_pick_t rfl) ?_
    try simp only [n0, n1, n2, n3, getD_cons_zero, getD_cons_succ, set_cons_zero, set_cons_succ, zero_add, add_zero, mul_one, zero_mul, m2, m3, m4]
    refine plan_p (v := BV true) rfl rfl (pr_move_v (by
      refine congrArg BV (?_ : ((_ : List UInt8) == _) = true)
      rw [beq_iff_eq]
      exact (take_take_len _ _).symm)) ?_
    try simp only [n0, n1, n2, n3, getD_cons_zero, getD_cons_succ, set_cons_zero, set_cons_succ, zero_add, add_zero, mul_one, zero_mul, m2, m3, m4]
    refine plan_p rfl rfl pr_move ?_
    try simp only [n0, n1, n2, n3, getD_cons_zero, getD_cons_succ, set_cons_zero, set_cons_succ, zero_add, add_zero, mul_one, zero_mul, m2, m3, m4]
    refine plan_p rfl rfl (pr_fieldAddr 18 rfl Try.underlying48 rfl rfl sz27) ?_
    try simp only [n0, n1, n2, n3, getD_cons_zero, getD_cons_succ, set_cons_zero, set_cons_succ, zero_add, add_zero, mul_one, zero_mul, m2, m3, m4]
    refine plan_p rfl rfl pr_move ?_
    try simp only [n0, n1, n2, n3, getD_cons_zero, getD_cons_succ, set_cons_zero, set_cons_succ, zero_add, add_zero, mul_one, zero_mul, m2, m3, m4]
    refine plan_p rfl rfl (pr_len_sl rfl Try.underlying27) ?_
    try simp only [n0, n1, n2, n3, getD_cons_zero, getD_cons_succ, set_cons_zero, set_cons_succ, zero_add, add_zero, mul_one, zero_mul, m2, m3, m4]
    refine plan_q rfl rfl (qr_b2s (OwnC.sl hH 4 rfl hO159) rfl Try.underlying27 Try.underlying5 Try.underlying9) ?_
    try simp only [n0, n1, n2, n3, getD_cons_zero, getD_cons_succ, set_cons_zero, set_cons_succ, zero_add, add_zero, mul_one, zero_mul, m2, m3, m4]
    refine plan_q rfl rfl (qr_load1 rfl Try.underlying27 rfl ((hH.blk 0 rfl).cell letterC_bytes)) ?_
    try simp only [n0, n1, n2, n3, getD_cons_zero, getD_cons_succ, set_cons_zero, set_cons_succ, zero_add, add_zero, mul_one, zero_mul, m2, m3, m4]
    refine plan_p rfl rfl (pr_slice_Sl_h (hb.chg hH.chg) rfl rfl Try.underlying27 sz5 (by first | omega | (first | (simp only [sealedL_len, List.length_map, List.length_range, List.length_take]; omega) | (simp; omega) | simp))) ?_
    try simp only [n0, n1, n2, n3, getD_cons_zero, getD_cons_succ, set_cons_zero, set_cons_succ, zero_add, add_zero, mul_one, zero_mul, m2, m3, m4]
    refine plan_q rfl rfl (qr_b2s (Sl.cuth (hb.chg hH.chg) (by first | omega | (first | (simp only [sealedL_len, List.length_map, List.length_range, List.length_take]; omega) | (simp; omega) | simp))) rfl Try.underlying27 Try.underlying5 Try.underlying9) ?_
    try simp only [n0, n1, n2, n3, getD_cons_zero, getD_cons_succ, set_cons_zero, set_cons_succ, zero_add, add_zero, mul_one, zero_mul, m2, m3, m4]
    refine plan_p rfl rfl (pr_bin rfl rfl bin_eql_s) ?_
    try simp only [n0, n1, n2, n3, getD_cons_zero, getD_cons_succ, set_cons_zero, set_cons_succ, zero_add, add_zero, mul_one, zero_mul, m2, m3, m4]
    refine plan_p rfl rfl (pr_pick_t rfl) ?_
    try simp only [n0, n1, n2, n3, getD_cons_zero, getD_cons_succ, set_cons_zero, set_cons_succ, zero_add, add_zero, mul_one, zero_mul, m2, m3, m4]
    refine plan_p rfl rfl pr_assign ?_
    try simp only [n0, n1, n2, n3, getD_cons_zero, getD_cons_succ, set_cons_zero, set_cons_succ, zero_add, add_zero, mul_one, zero_mul, m2, m3, m4]
    refine plan_nil hH ?_
    clear hH
    intro w189 hH
    refine hK188 _ _ ?_
    try clear hK188 K188
    refine wp_ret ?_
    try simp only [Exit.then, Exit.inBlock, ↓reduceIte, Nat.reduceEqDiff]
    refine BP.ret1 rfl rfl ?_
    exact ⟨congrArg BV (beq_iff_eq.2 (take_take_len _ _).symm), hH.chg⟩

end Go.Proofs.Ytjbohfonjalfnaa
