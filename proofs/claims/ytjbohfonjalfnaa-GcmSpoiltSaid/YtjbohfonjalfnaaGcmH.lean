/- Sealed rows, byte by byte; walks of the laws GcmHides and GcmOpen. No conditions. -/
import Derived.Test.YtjbohfonjalfnaaGcmL
import Derived.Test.YtjbohfonjalfnaaWide
set_option linter.unusedSimpArgs false
set_option linter.unusedVariables false
set_option maxRecDepth 100000
set_option maxHeartbeats 4000000
namespace Go.Proofs.Ytjbohfonjalfnaa
open Go
open List (getD_cons_zero getD_cons_succ set_cons_zero set_cons_succ)
open Nat (zero_add add_zero mul_one zero_mul)

/-- Twelve bytes of a row that is filled up with noughts. -/
def nonceL (l : List UInt8) : List UInt8 := (l ++ List.replicate 12 0).take 12
theorem nonceL_len (l : List UInt8) : (nonceL l).length = 12 := by unfold nonceL; simp
theorem sealed_hid (K : Nat → UInt8) (h : P2) (nl al bl : List UInt8) {i : Nat} (hi : i < bl.length) : (sealedL K h nl al bl).getD i 0 = bl.getD i 0 ^^^ ksF K (gctr nl 2) i := by
  have e : (sealedL K h nl al bl).getD i 0 = (hidL K nl bl).getD i 0 := by
    unfold sealedL
    simp only [List.getD, List.getElem?_append, hidL_len, hi, if_true]
  rw [e]
  unfold hidL
  rw [strm_at _ _ _ _ hi, Nat.zero_add]
theorem sealed_take (K : Nat → UInt8) (h : P2) (nl al bl : List UInt8) : (sealedL K h nl al bl).take ((sealedL K h nl al bl).length - 16) = hidL K nl bl := by
  rw [sealedL_len, Nat.add_sub_cancel]
  unfold sealedL
  rw [List.take_append_of_le_length (by rw [hidL_len]; exact Nat.le_refl _), List.take_of_length_le (by rw [hidL_len]; exact Nat.le_refl _)]
theorem sealed_drop (K : Nat → UInt8) (h : P2) (nl al bl : List UInt8) : (sealedL K h nl al bl).drop ((sealedL K h nl al bl).length - 16) = sealL K h nl al (hidL K nl bl) := by
  rw [sealedL_len, Nat.add_sub_cancel]
  unfold sealedL
  rw [List.drop_append_of_le_length (by rw [hidL_len]; exact Nat.le_refl _), List.drop_eq_nil_of_le (by rw [hidL_len]; exact Nat.le_refl _), List.nil_append]
theorem hid_twice (K : Nat → UInt8) (nl bl : List UInt8) : hidL K nl (hidL K nl bl) = bl := by
  unfold hidL
  rw [strm_len]; exact strm_twice _ _ _ _
theorem take_take_len (l : List UInt8) (n : Nat) : l.take (l.take n).length = l.take n := by
  rw [List.length_take]
  by_cases h : n ≤ l.length
  · rw [Nat.min_eq_left h]
  · rw [Nat.min_eq_right (by omega), List.take_of_length_le (Nat.le_refl _), List.take_of_length_le (by omega)]

theorem gcmhides_calls (f : Nat → UInt8) (nv av bv : Value) (nl al bl : List UInt8) (ov : Value) (ol : List UInt8) (w : World) (hn : Sl w nv nl) (ha : Sl w av al) (hb : Sl w bv bl) (hnl : nl.length ≤ reachBytes) (ho : Sl w ov ol) : Ret Try.prog 9 #[.agg (letterC f nv av bv), ov] w fun v w' => v = BV true ∧ Chg [] w w' := by
  have hr : reachBytes = 140737488351232 := rfl
  have hcut : (bl.take (min bl.length 120)).length ≤ 120 := by simp; omega
  refine Ret.enter Try.func9 rfl ?_
  simp only [Try.ntmps9, List.size_toArray, List.length_cons, List.length_nil, Nat.reduceAdd, Nat.reduceSub, frame_enter, List.replicate_succ, List.replicate_zero, List.nil_append, List.cons_append]
  have hH := Hp.start [] w
  refine wp_seq_k ?_
  intro K1 hK1
  refine wp_region_text [.x 0, .p 1] rfl ?_
  refine plan_box rfl rfl hH rfl ?_
  clear hH
  intro b2 w3 hH
  try simp only [n0, n1, n2, n3, getD_cons_zero, getD_cons_succ, set_cons_zero, set_cons_succ, zero_add, add_zero, mul_one, zero_mul, m2, m3, m4, m5, m6, m7, Value.cells, arr8_set, arr32_set, arr64_set, arrB_set] at hH ⊢
  refine plan_p rfl rfl pr_assign ?_
  try simp only [n0, n1, n2, n3, getD_cons_zero, getD_cons_succ, set_cons_zero, set_cons_succ, zero_add, add_zero, mul_one, zero_mul, m2, m3, m4]
  refine plan_nil hH ?_
  clear hH
  intro w4 hH
  refine hK1 _ _ ?_
  try clear hK1 K1
  refine wp_seq_k ?_
  intro K5 hK5
  refine wp_region_text [.p 0, .p 1, .x 2, .p 3, .p 4, .p 5, .p 6, .p 7] rfl ?_
  refine plan_p rfl rfl (pr_fieldAddr 0 rfl Try.underlying48 rfl rfl sz22) ?_
  try simp only [n0, n1, n2, n3, getD_cons_zero, getD_cons_succ, set_cons_zero, set_cons_succ, zero_add, add_zero, mul_one, zero_mul, m2, m3, m4]
  refine plan_p rfl rfl (pr_slice_arr_all rfl Try.underlying22 sz5) ?_
  try simp only [n0, n1, n2, n3, getD_cons_zero, getD_cons_succ, set_cons_zero, set_cons_succ, zero_add, add_zero, mul_one, zero_mul, m2, m3, m4]
  try simp only [Nat.mul_one, Nat.zero_add, Nat.add_sub_cancel_left]
  refine plan_callx rfl rfl hH cf23 (fun w' hH => gnew_calls _ _ w' (letter_key (hH.blk 0 rfl)) (by simp)) rfl (fun _ _ _ h => by obtain ⟨_, _, _, hg, _⟩ := h; exact hg) ?_
  clear hH
  intro w6 v7 w8 hH hp9
  obtain ⟨b10, b11, rfl, hg, hfc, hbc, hfx, hbx, hne⟩ := hp9
  replace hH := hH.callnew2 hg hbc hfc hbx hfx hne
  clear hg hfc hbc hfx hbx hne
  try simp only [n0, n1, n2, n3, getD_cons_zero, getD_cons_succ, set_cons_zero, set_cons_succ, zero_add, add_zero, mul_one, zero_mul, m2, m3, m4, m5, m6, m7, Value.cells, arr8_set, arr32_set, arr64_set, arrB_set] at hH ⊢
  try simp only [n0, n1, n2, n3, getD_cons_zero, getD_cons_succ, set_cons_zero, set_cons_succ, zero_add, add_zero, mul_one, zero_mul, m2, m3, m4]
  refine plan_p rfl rfl pr_move ?_
  try simp only [n0, n1, n2, n3, getD_cons_zero, getD_cons_succ, set_cons_zero, set_cons_succ, zero_add, add_zero, mul_one, zero_mul, m2, m3, m4]
  refine plan_p rfl rfl (pr_extract rfl rfl) ?_
  try simp only [n0, n1, n2, n3, getD_cons_zero, getD_cons_succ, set_cons_zero, set_cons_succ, zero_add, add_zero, mul_one, zero_mul, m2, m3, m4]
  refine plan_p rfl rfl (pr_extract rfl rfl) ?_
  try simp only [n0, n1, n2, n3, getD_cons_zero, getD_cons_succ, set_cons_zero, set_cons_succ, zero_add, add_zero, mul_one, zero_mul, m2, m3, m4]
  refine plan_p rfl rfl pr_assign ?_
  try simp only [n0, n1, n2, n3, getD_cons_zero, getD_cons_succ, set_cons_zero, set_cons_succ, zero_add, add_zero, mul_one, zero_mul, m2, m3, m4]
  refine plan_p rfl rfl pr_assign ?_
  try simp only [n0, n1, n2, n3, getD_cons_zero, getD_cons_succ, set_cons_zero, set_cons_succ, zero_add, add_zero, mul_one, zero_mul, m2, m3, m4]
  refine plan_nil hH ?_
  clear hH
  intro w12 hH
  refine hK5 _ _ ?_
  try clear hK5 K5
  refine wp_seq_k ?_
  intro K13 hK13
  refine wp_seq_k ?_
  intro K14 hK14
  refine wp_region_text [.q 0, .p 1, .p 2, .p 3, .p 4, .p 5] rfl ?_
  refine plan_q rfl rfl (qr_call cf24 (fun w' hw => sealed_calls w') rfl) ?_
  try simp only [n0, n1, n2, n3, getD_cons_zero, getD_cons_succ, set_cons_zero, set_cons_succ, zero_add, add_zero, mul_one, zero_mul, m2, m3, m4]
  refine plan_p rfl rfl (pr_not rfl) ?_
  try simp only [n0, n1, n2, n3, getD_cons_zero, getD_cons_succ, set_cons_zero, set_cons_succ, zero_add, add_zero, mul_one, zero_mul, m2, m3, m4]
  refine plan_p (v := BV false) rfl rfl (pr_move_v rfl) ?_
  try simp only [n0, n1, n2, n3, getD_cons_zero, getD_cons_succ, set_cons_zero, set_cons_succ, zero_add, add_zero, mul_one, zero_mul, m2, m3, m4]
  refine plan_p rfl rfl pr_move ?_
  try simp only [n0, n1, n2, n3, getD_cons_zero, getD_cons_succ, set_cons_zero, set_cons_succ, zero_add, add_zero, mul_one, zero_mul, m2, m3, m4]
  refine plan_p rfl rfl (pr_bin rfl rfl (by first | exact bin_neq_n (n := 0)  | exact bin_neq_i)) ?_
  try simp only [n0, n1, n2, n3, getD_cons_zero, getD_cons_succ, set_cons_zero, set_cons_succ, zero_add, add_zero, mul_one, zero_mul, m2, m3, m4]
  refine plan_p rfl rfl (pr_pick_f rfl) ?_
  try simp only [n0, n1, n2, n3, getD_cons_zero, getD_cons_succ, set_cons_zero, set_cons_succ, zero_add, add_zero, mul_one, zero_mul, m2, m3, m4]
  refine plan_nil hH ?_
  clear hH
  intro w15 hH
  refine hK14 _ _ ?_
  try clear hK14 K14
  refine wp_cond_false rfl ?_
  refine wp_skip ?_
  refine hK13 _ _ ?_
  try clear hK13 K13
  refine wp_seq_k ?_
  intro K16 hK16
  refine wp_region_text [.x 0, .p 1, .q 2, .e 3, .e 4, .p 5, .p 6] rfl ?_
  refine plan_buildSlice rfl rfl hH Try.underlying27 (by rfl) (bs0 ) ?_
  clear hH
  intro b17 w18 hH
  try simp only [n0, n1, n2, n3, getD_cons_zero, getD_cons_succ, set_cons_zero, set_cons_succ, zero_add, add_zero, mul_one, zero_mul, m2, m3, m4, m5, m6, m7, Value.cells, arr8_set, arr32_set, arr64_set, arrB_set] at hH ⊢
  refine plan_p rfl rfl (pr_fieldAddr 16 rfl Try.underlying48 rfl rfl sz27) ?_
  try simp only [n0, n1, n2, n3, getD_cons_zero, getD_cons_succ, set_cons_zero, set_cons_succ, zero_add, add_zero, mul_one, zero_mul, m2, m3, m4]
  refine plan_q rfl rfl (qr_load1 rfl Try.underlying27 rfl ((hH.blk 0 rfl).cell letterC_nonce)) ?_
  try simp only [n0, n1, n2, n3, getD_cons_zero, getD_cons_succ, set_cons_zero, set_cons_succ, zero_add, add_zero, mul_one, zero_mul, m2, m3, m4]
  refine plan_append 3 rfl rfl hH rfl (OwnC.of_bytes rfl) (fun w' hH => ((hn.chg hH.chg)).src) rfl rfl Try.underlying27 Try.underlying27 (.inl ⟨_, rfl⟩) sz5 bz5 ze5 rfl (by first | omega | (simp <;> omega)) (by first | omega | (simp <;> omega)) ?_
  clear hH
  intro o19 cap20 cs21 w22 hO23 hH
  try simp only [n0, n1, n2, n3, getD_cons_zero, getD_cons_succ, set_cons_zero, set_cons_succ, zero_add, add_zero, mul_one, zero_mul, m2, m3, m4] at hH ⊢
  try simp only [n0, n1, n2, n3, getD_cons_zero, getD_cons_succ, set_cons_zero, set_cons_succ, zero_add, add_zero, mul_one, zero_mul, m2, m3, m4, m5, m6, m7, Value.cells, arr8_set, arr32_set, arr64_set, arrB_set] at hH ⊢
  try rw [← List.map_append] at hO23
  try simp only [Nat.zero_add, List.nil_append, List.length_nil] at hO23 ⊢
  refine plan_appendz 3 (m := 12) rfl rfl hH rfl hO23 rfl rfl (by decide) Try.underlying27 Try.underlying3 sz5 bz5 ze5 (by first | omega | (simp <;> omega)) ?_
  clear hH
  intro o24 cap25 cs26 w27 hO28 hH
  try simp only [n0, n1, n2, n3, getD_cons_zero, getD_cons_succ, set_cons_zero, set_cons_succ, zero_add, add_zero, mul_one, zero_mul, m2, m3, m4] at hH ⊢
  try simp only [n0, n1, n2, n3, getD_cons_zero, getD_cons_succ, set_cons_zero, set_cons_succ, zero_add, add_zero, mul_one, zero_mul, m2, m3, m4, m5, m6, m7, Value.cells, arr8_set, arr32_set, arr64_set, arrB_set] at hH ⊢
  rw [← List.map_append] at hO28
  refine plan_p rfl rfl (pr_slice_Sl_h (hi := 12) (OwnC.sl hH 3 rfl hO28) rfl rfl Try.underlying27 sz5 (by first | omega | (first | (simp only [sealedL_len, List.length_map, List.length_range]; omega) | (simp; omega) | simp))) ?_
  try simp only [n0, n1, n2, n3, getD_cons_zero, getD_cons_succ, set_cons_zero, set_cons_succ, zero_add, add_zero, mul_one, zero_mul, m2, m3, m4]
  refine plan_p rfl rfl pr_assign ?_
  try simp only [n0, n1, n2, n3, getD_cons_zero, getD_cons_succ, set_cons_zero, set_cons_succ, zero_add, add_zero, mul_one, zero_mul, m2, m3, m4]
  refine plan_nil hH ?_
  clear hH
  intro w29 hH
  refine hK16 _ _ ?_
  try clear hK16 K16
  refine wp_seq_k ?_
  intro K30 hK30
  refine wp_region_text [.p 0, .q 1, .q 2, .p 3] rfl ?_
  refine plan_p rfl rfl (pr_fieldAddr 18 rfl Try.underlying48 rfl rfl sz27) ?_
  try simp only [n0, n1, n2, n3, getD_cons_zero, getD_cons_succ, set_cons_zero, set_cons_succ, zero_add, add_zero, mul_one, zero_mul, m2, m3, m4]
  refine plan_q rfl rfl (qr_load1 rfl Try.underlying27 rfl ((hH.blk 0 rfl).cell letterC_bytes)) ?_
  try simp only [n0, n1, n2, n3, getD_cons_zero, getD_cons_succ, set_cons_zero, set_cons_succ, zero_add, add_zero, mul_one, zero_mul, m2, m3, m4]
  refine plan_q rfl rfl (qr_call cf25 (fun w' hw => cut_calls _ _ w' ((hb.chg hH.chg).chg hw)) rfl) ?_
  try simp only [n0, n1, n2, n3, getD_cons_zero, getD_cons_succ, set_cons_zero, set_cons_succ, zero_add, add_zero, mul_one, zero_mul, m2, m3, m4]
  refine plan_p rfl rfl pr_assign ?_
  try simp only [n0, n1, n2, n3, getD_cons_zero, getD_cons_succ, set_cons_zero, set_cons_succ, zero_add, add_zero, mul_one, zero_mul, m2, m3, m4]
  refine plan_nil hH ?_
  clear hH
  intro w31 hH
  refine hK30 _ _ ?_
  try clear hK30 K30
  refine wp_seq_k ?_
  intro K32 hK32
  refine wp_region_text [.p 0, .p 1, .p 2, .q 3, .q 4, .p 5, .x 6, .p 7, .p 8, .p 9, .p 10, .p 11] rfl ?_
  refine plan_p rfl rfl pr_move ?_
  try simp only [n0, n1, n2, n3, getD_cons_zero, getD_cons_succ, set_cons_zero, set_cons_succ, zero_add, add_zero, mul_one, zero_mul, m2, m3, m4]
  refine plan_p rfl rfl pr_move ?_
  try simp only [n0, n1, n2, n3, getD_cons_zero, getD_cons_succ, set_cons_zero, set_cons_succ, zero_add, add_zero, mul_one, zero_mul, m2, m3, m4]
  refine plan_p rfl rfl (pr_fieldAddr 17 rfl Try.underlying48 rfl rfl sz27) ?_
  try simp only [n0, n1, n2, n3, getD_cons_zero, getD_cons_succ, set_cons_zero, set_cons_succ, zero_add, add_zero, mul_one, zero_mul, m2, m3, m4]
  refine plan_q rfl rfl (qr_load1 rfl Try.underlying27 rfl ((hH.blk 0 rfl).cell letterC_side)) ?_
  try simp only [n0, n1, n2, n3, getD_cons_zero, getD_cons_succ, set_cons_zero, set_cons_succ, zero_add, add_zero, mul_one, zero_mul, m2, m3, m4]
  refine plan_q rfl rfl (qr_call cf25 (fun w' hw => cut_calls _ _ w' ((ha.chg hH.chg).chg hw)) rfl) ?_
  try simp only [n0, n1, n2, n3, getD_cons_zero, getD_cons_succ, set_cons_zero, set_cons_succ, zero_add, add_zero, mul_one, zero_mul, m2, m3, m4]
  refine plan_p rfl rfl pr_move ?_
  try simp only [n0, n1, n2, n3, getD_cons_zero, getD_cons_succ, set_cons_zero, set_cons_succ, zero_add, add_zero, mul_one, zero_mul, m2, m3, m4]
  refine plan_callx rfl rfl hH cf26 (fun w' hH => Seal_calls _ _ _ (hP _) _ _ _ _ _ _ w' (hH.blk 2 rfl) (hH.blk 1 rfl) (Sl.cuth (OwnC.sl hH 3 rfl hO28) (by first | omega | (first | (simp only [sealedL_len, List.length_map, List.length_range]; omega) | (simp; omega) | simp))) (nonceL_len nl) (Sl.cuth (ha.chg hH.chg) (by omega)) (Sl.cuth (hb.chg hH.chg) (by omega)) (by simp; omega)) rfl (fun _ _ _ h => by obtain ⟨_, _, _, _, hg, _⟩ := h; exact hg) ?_
  clear hH
  intro w33 v34 w35 hH hp36
  obtain ⟨o37, cap38, cs39, rfl, hg, hO40, hfr⟩ := hp36
  replace hH := hH.callown hg hfr
  clear hg hfr
  try simp only [n0, n1, n2, n3, getD_cons_zero, getD_cons_succ, set_cons_zero, set_cons_succ, zero_add, add_zero, mul_one, zero_mul, m2, m3, m4, m5, m6, m7, Value.cells, arr8_set, arr32_set, arr64_set, arrB_set] at hH ⊢
  try simp only [n0, n1, n2, n3, getD_cons_zero, getD_cons_succ, set_cons_zero, set_cons_succ, zero_add, add_zero, mul_one, zero_mul, m2, m3, m4]
  refine plan_p rfl rfl pr_move ?_
  try simp only [n0, n1, n2, n3, getD_cons_zero, getD_cons_succ, set_cons_zero, set_cons_succ, zero_add, add_zero, mul_one, zero_mul, m2, m3, m4]
  refine plan_p rfl rfl (pr_extract rfl rfl) ?_
  try simp only [n0, n1, n2, n3, getD_cons_zero, getD_cons_succ, set_cons_zero, set_cons_succ, zero_add, add_zero, mul_one, zero_mul, m2, m3, m4]
  refine plan_p rfl rfl (pr_extract rfl rfl) ?_
  try simp only [n0, n1, n2, n3, getD_cons_zero, getD_cons_succ, set_cons_zero, set_cons_succ, zero_add, add_zero, mul_one, zero_mul, m2, m3, m4]
  refine plan_p rfl rfl pr_assign ?_
  try simp only [n0, n1, n2, n3, getD_cons_zero, getD_cons_succ, set_cons_zero, set_cons_succ, zero_add, add_zero, mul_one, zero_mul, m2, m3, m4]
  refine plan_p rfl rfl pr_assign ?_
  try simp only [n0, n1, n2, n3, getD_cons_zero, getD_cons_succ, set_cons_zero, set_cons_succ, zero_add, add_zero, mul_one, zero_mul, m2, m3, m4]
  refine plan_nil hH ?_
  clear hH
  intro w41 hH
  refine hK32 _ _ ?_
  try clear hK32 K32
  refine wp_seq_k ?_
  intro K42 hK42
  refine wp_region_text [.p 0, .p 1, .p 2, .q 3, .p 4, .x 5, .p 6, .p 7, .p 8, .p 9, .p 10] rfl ?_
  refine plan_p rfl rfl pr_move ?_
  try simp only [n0, n1, n2, n3, getD_cons_zero, getD_cons_succ, set_cons_zero, set_cons_succ, zero_add, add_zero, mul_one, zero_mul, m2, m3, m4]
  refine plan_p rfl rfl pr_move ?_
  try simp only [n0, n1, n2, n3, getD_cons_zero, getD_cons_succ, set_cons_zero, set_cons_succ, zero_add, add_zero, mul_one, zero_mul, m2, m3, m4]
  refine plan_p rfl rfl pr_move ?_
  try simp only [n0, n1, n2, n3, getD_cons_zero, getD_cons_succ, set_cons_zero, set_cons_succ, zero_add, add_zero, mul_one, zero_mul, m2, m3, m4]
  refine plan_q rfl rfl (qr_call cf25 (fun w' hw => cut_calls _ _ w' ((ho.chg hH.chg).chg hw)) rfl) ?_
  try simp only [n0, n1, n2, n3, getD_cons_zero, getD_cons_succ, set_cons_zero, set_cons_succ, zero_add, add_zero, mul_one, zero_mul, m2, m3, m4]
  refine plan_p rfl rfl pr_move ?_
  try simp only [n0, n1, n2, n3, getD_cons_zero, getD_cons_succ, set_cons_zero, set_cons_succ, zero_add, add_zero, mul_one, zero_mul, m2, m3, m4]
  refine plan_callx rfl rfl hH cf26 (fun w' hH => Seal_calls _ _ _ (hP _) _ _ _ _ _ _ w' (hH.blk 2 rfl) (hH.blk 1 rfl) (Sl.cuth (OwnC.sl hH 3 rfl hO28) (by first | omega | (first | (simp only [sealedL_len, List.length_map, List.length_range]; omega) | (simp; omega) | simp))) (nonceL_len nl) (Sl.cuth (ho.chg hH.chg) (by omega)) (Sl.cuth (hb.chg hH.chg) (by omega)) (by simp; omega)) rfl (fun _ _ _ h => by obtain ⟨_, _, _, _, hg, _⟩ := h; exact hg) ?_
  clear hH
  intro w43 v44 w45 hH hp46
  obtain ⟨o47, cap48, cs49, rfl, hg, hO50, hfr⟩ := hp46
  replace hH := hH.callown hg hfr
  clear hg hfr
  try simp only [n0, n1, n2, n3, getD_cons_zero, getD_cons_succ, set_cons_zero, set_cons_succ, zero_add, add_zero, mul_one, zero_mul, m2, m3, m4, m5, m6, m7, Value.cells, arr8_set, arr32_set, arr64_set, arrB_set] at hH ⊢
  try simp only [n0, n1, n2, n3, getD_cons_zero, getD_cons_succ, set_cons_zero, set_cons_succ, zero_add, add_zero, mul_one, zero_mul, m2, m3, m4]
  refine plan_p rfl rfl pr_move ?_
  try simp only [n0, n1, n2, n3, getD_cons_zero, getD_cons_succ, set_cons_zero, set_cons_succ, zero_add, add_zero, mul_one, zero_mul, m2, m3, m4]
  refine plan_p rfl rfl (pr_extract rfl rfl) ?_
  try simp only [n0, n1, n2, n3, getD_cons_zero, getD_cons_succ, set_cons_zero, set_cons_succ, zero_add, add_zero, mul_one, zero_mul, m2, m3, m4]
  refine plan_p rfl rfl (pr_extract rfl rfl) ?_
  try simp only [n0, n1, n2, n3, getD_cons_zero, getD_cons_succ, set_cons_zero, set_cons_succ, zero_add, add_zero, mul_one, zero_mul, m2, m3, m4]
  refine plan_p rfl rfl pr_assign ?_
  try simp only [n0, n1, n2, n3, getD_cons_zero, getD_cons_succ, set_cons_zero, set_cons_succ, zero_add, add_zero, mul_one, zero_mul, m2, m3, m4]
  refine plan_p rfl rfl pr_assign ?_
  try simp only [n0, n1, n2, n3, getD_cons_zero, getD_cons_succ, set_cons_zero, set_cons_succ, zero_add, add_zero, mul_one, zero_mul, m2, m3, m4]
  refine plan_nil hH ?_
  clear hH
  intro w51 hH
  refine hK42 _ _ ?_
  try clear hK42 K42
  refine wp_seq_k ?_
  intro K52 hK52
  refine wp_region_text [.p 0, .p 1, .p 2, .p 3, .x 4, .x 5, .p 6, .p 7, .p 8, .p 9, .p 10] rfl ?_
  refine plan_p rfl rfl pr_move ?_
  try simp only [n0, n1, n2, n3, getD_cons_zero, getD_cons_succ, set_cons_zero, set_cons_succ, zero_add, add_zero, mul_one, zero_mul, m2, m3, m4]
  refine plan_p rfl rfl pr_move ?_
  try simp only [n0, n1, n2, n3, getD_cons_zero, getD_cons_succ, set_cons_zero, set_cons_succ, zero_add, add_zero, mul_one, zero_mul, m2, m3, m4]
  refine plan_p rfl rfl pr_move ?_
  try simp only [n0, n1, n2, n3, getD_cons_zero, getD_cons_succ, set_cons_zero, set_cons_succ, zero_add, add_zero, mul_one, zero_mul, m2, m3, m4]
  refine plan_p rfl rfl (pr_len_Sl (Sl.cuth (hb.chg hH.chg) (by omega)) rfl Try.underlying27) ?_
  try simp only [n0, n1, n2, n3, getD_cons_zero, getD_cons_succ, set_cons_zero, set_cons_succ, zero_add, add_zero, mul_one, zero_mul, m2, m3, m4]
  refine plan_make rfl rfl hH rfl rfl Try.underlying27 sz5 bz5 ze5 rfl (by first | omega | (first | (simp only [sealedL_len, List.length_map, List.length_range]; omega) | (simp; omega) | simp)) (by first | omega | (first | (simp only [sealedL_len, List.length_map, List.length_range]; omega) | (simp; omega) | simp)) (by first | omega | (first | (simp only [sealedL_len, List.length_map, List.length_range]; omega) | (simp; omega) | simp)) ?_
  clear hH
  intro b53 w54 hH
  try simp only [n0, n1, n2, n3, getD_cons_zero, getD_cons_succ, set_cons_zero, set_cons_succ, zero_add, add_zero, mul_one, zero_mul, m2, m3, m4] at hH ⊢
  rw [made_arr8] at hH
  try simp only [n0, n1, n2, n3, getD_cons_zero, getD_cons_succ, set_cons_zero, set_cons_succ, zero_add, add_zero, mul_one, zero_mul, m2, m3, m4, m5, m6, m7, Value.cells, arr8_set, arr32_set, arr64_set, arrB_set] at hH ⊢
  refine plan_callx rfl rfl hH cf26 (fun w' hH => Seal_calls _ _ _ (hP _) _ _ _ _ _ _ w' (hH.blk 2 rfl) (hH.blk 1 rfl) (Sl.cuth (OwnC.sl hH 3 rfl hO28) (by first | omega | (first | (simp only [sealedL_len, List.length_map, List.length_range]; omega) | (simp; omega) | simp))) (nonceL_len nl) Sl.nil (OwnC.sl hH 6 rfl OwnC.made) (by simp; omega)) rfl (fun _ _ _ h => by obtain ⟨_, _, _, _, hg, _⟩ := h; exact hg) ?_
  clear hH
  intro w55 v56 w57 hH hp58
  obtain ⟨o59, cap60, cs61, rfl, hg, hO62, hfr⟩ := hp58
  replace hH := hH.callown hg hfr
  clear hg hfr
  try simp only [n0, n1, n2, n3, getD_cons_zero, getD_cons_succ, set_cons_zero, set_cons_succ, zero_add, add_zero, mul_one, zero_mul, m2, m3, m4, m5, m6, m7, Value.cells, arr8_set, arr32_set, arr64_set, arrB_set] at hH ⊢
  try simp only [n0, n1, n2, n3, getD_cons_zero, getD_cons_succ, set_cons_zero, set_cons_succ, zero_add, add_zero, mul_one, zero_mul, m2, m3, m4]
  refine plan_p rfl rfl pr_move ?_
  try simp only [n0, n1, n2, n3, getD_cons_zero, getD_cons_succ, set_cons_zero, set_cons_succ, zero_add, add_zero, mul_one, zero_mul, m2, m3, m4]
  refine plan_p rfl rfl (pr_extract rfl rfl) ?_
  try simp only [n0, n1, n2, n3, getD_cons_zero, getD_cons_succ, set_cons_zero, set_cons_succ, zero_add, add_zero, mul_one, zero_mul, m2, m3, m4]
  refine plan_p rfl rfl (pr_extract rfl rfl) ?_
  try simp only [n0, n1, n2, n3, getD_cons_zero, getD_cons_succ, set_cons_zero, set_cons_succ, zero_add, add_zero, mul_one, zero_mul, m2, m3, m4]
  refine plan_p rfl rfl pr_assign ?_
  try simp only [n0, n1, n2, n3, getD_cons_zero, getD_cons_succ, set_cons_zero, set_cons_succ, zero_add, add_zero, mul_one, zero_mul, m2, m3, m4]
  refine plan_p rfl rfl pr_assign ?_
  try simp only [n0, n1, n2, n3, getD_cons_zero, getD_cons_succ, set_cons_zero, set_cons_succ, zero_add, add_zero, mul_one, zero_mul, m2, m3, m4]
  refine plan_nil hH ?_
  clear hH
  intro w63 hH
  refine hK52 _ _ ?_
  try clear hK52 K52
  refine wp_seq_k ?_
  intro K64 hK64
  refine wp_seq_k ?_
  intro K65 hK65
  refine wp_region_text [.p 0, .p 1, .p 2, .p 3, .p 4, .p 5, .p 6, .p 7, .p 8, .p 9] rfl ?_
  refine plan_p rfl rfl pr_move ?_
  try simp only [n0, n1, n2, n3, getD_cons_zero, getD_cons_succ, set_cons_zero, set_cons_succ, zero_add, add_zero, mul_one, zero_mul, m2, m3, m4]
  refine plan_p rfl rfl (pr_bin rfl rfl (by first | exact bin_neq_n (n := 0)  | exact bin_neq_i)) ?_
  try simp only [n0, n1, n2, n3, getD_cons_zero, getD_cons_succ, set_cons_zero, set_cons_succ, zero_add, add_zero, mul_one, zero_mul, m2, m3, m4]
  refine plan_p (v := BV false) rfl rfl (pr_move_v rfl) ?_
  try simp only [n0, n1, n2, n3, getD_cons_zero, getD_cons_succ, set_cons_zero, set_cons_succ, zero_add, add_zero, mul_one, zero_mul, m2, m3, m4]
  refine plan_p rfl rfl pr_move ?_
  try simp only [n0, n1, n2, n3, getD_cons_zero, getD_cons_succ, set_cons_zero, set_cons_succ, zero_add, add_zero, mul_one, zero_mul, m2, m3, m4]
  refine plan_p rfl rfl (pr_bin rfl rfl (by first | exact bin_neq_n (n := 0)  | exact bin_neq_i)) ?_
  try simp only [n0, n1, n2, n3, getD_cons_zero, getD_cons_succ, set_cons_zero, set_cons_succ, zero_add, add_zero, mul_one, zero_mul, m2, m3, m4]
  refine plan_p rfl rfl (pr_pick_f rfl) ?_
  try simp only [n0, n1, n2, n3, getD_cons_zero, getD_cons_succ, set_cons_zero, set_cons_succ, zero_add, add_zero, mul_one, zero_mul, m2, m3, m4]
  refine plan_p (v := BV false) rfl rfl (pr_move_v rfl) ?_
  try simp only [n0, n1, n2, n3, getD_cons_zero, getD_cons_succ, set_cons_zero, set_cons_succ, zero_add, add_zero, mul_one, zero_mul, m2, m3, m4]
  refine plan_p rfl rfl pr_move ?_
  try simp only [n0, n1, n2, n3, getD_cons_zero, getD_cons_succ, set_cons_zero, set_cons_succ, zero_add, add_zero, mul_one, zero_mul, m2, m3, m4]
  refine plan_p rfl rfl (pr_bin rfl rfl (by first | exact bin_neq_n (n := 0)  | exact bin_neq_i)) ?_
  try simp only [n0, n1, n2, n3, getD_cons_zero, getD_cons_succ, set_cons_zero, set_cons_succ, zero_add, add_zero, mul_one, zero_mul, m2, m3, m4]
  refine plan_p rfl rfl (pr_pick_f rfl) ?_
  try simp only [n0, n1, n2, n3, getD_cons_zero, getD_cons_succ, set_cons_zero, set_cons_succ, zero_add, add_zero, mul_one, zero_mul, m2, m3, m4]
  refine plan_nil hH ?_
  clear hH
  intro w66 hH
  refine hK65 _ _ ?_
  try clear hK65 K65
  refine wp_cond_false rfl ?_
  refine wp_skip ?_
  refine hK64 _ _ ?_
  try clear hK64 K64
  refine wp_seq_k ?_
  intro K67 hK67
  refine wp_seq_k ?_
  intro K68 hK68
  refine wp_region_text [.p 0] rfl ?_
  refine plan_p rfl rfl (pr_aconst_n 0 rfl) ?_
  try simp only [n0, n1, n2, n3, getD_cons_zero, getD_cons_succ, set_cons_zero, set_cons_succ, zero_add, add_zero, mul_one, zero_mul, m2, m3, m4]
  refine plan_nil hH ?_
  clear hH
  intro w69 hH
  refine hK68 _ _ ?_
  try clear hK68 K68
  refine wp_block ?_
  obtain ⟨kc70, hkc71, hN⟩ := hH.name 0 rfl
  replace hH := hN; clear hN; simp only [List.set_cons_zero, List.set_cons_succ] at hH
  obtain ⟨kc72, hkc73, hN⟩ := hH.name 1 rfl
  replace hH := hN; clear hN; simp only [List.set_cons_zero, List.set_cons_succ] at hH
  obtain ⟨kc74, hkc75, hN⟩ := hH.name 2 rfl
  replace hH := hN; clear hN; simp only [List.set_cons_zero, List.set_cons_succ] at hH
  obtain ⟨kc76, hkc77, hN⟩ := hH.name 6 rfl
  replace hH := hN; clear hN; simp only [List.set_cons_zero, List.set_cons_succ] at hH
  refine wp_loopT [14] [4, 74, 75, 76, 77, 78, 79, 80, 81, 82, 83, 84, 85, 86, 87, 88, 89, 90, 91, 92, 93, 94, 95, 96, 97, 98, 99, 100, 101, 102, 103, 104] (fun (n78 : Nat) (vs : List Value) (w' : World) => ∃ (i : Nat), vs = [I64 (i : Nat)] ∧ Hp [] w w' [(some b2, 48, kc70), (some b10, 65, kc72), (some b11, 80, kc74), (o24, 5, cs26), (o37, 5, cs39), (o47, 5, cs49), (some b53, 5, kc76), (o59, 5, cs61)] ∧ n78 = (bl.take (min bl.length 120)).length - i ∧ i ≤ (bl.take (min bl.length 120)).length) ((bl.take (min bl.length 120)).length - 0) (by kernel_rfl) ?_ ?_
  ·
    simp only [getAll, List.map_cons, List.map_nil, getD_cons_zero, getD_cons_succ]
    refine ⟨0, rfl, ?_, rfl, ?_⟩
    ·
      exact hH
    · first | omega | (omega)
  clear hH
  intro n78 vs79 w80 hR81 d0
  obtain ⟨i, rfl, hH, hn82, hf83⟩ := hR81
  simp only [putAll, putD, List.set_cons_zero, List.set_cons_succ, Nat.zero_add, Nat.reduceAdd]
  subst hkc71 hkc73 hkc75 hkc77
  refine wp_seq_k ?_
  intro K84 hK84
  refine wp_seq_k ?_
  intro K85 hK85
  refine wp_region_text [.p 0, .p 1, .p 2, .p 3] rfl ?_
  refine plan_p rfl rfl pr_move ?_
  try simp only [n0, n1, n2, n3, getD_cons_zero, getD_cons_succ, set_cons_zero, set_cons_succ, zero_add, add_zero, mul_one, zero_mul, m2, m3, m4]
  refine plan_p rfl rfl pr_move ?_
  try simp only [n0, n1, n2, n3, getD_cons_zero, getD_cons_succ, set_cons_zero, set_cons_succ, zero_add, add_zero, mul_one, zero_mul, m2, m3, m4]
  refine plan_p rfl rfl (pr_len_Sl (Sl.cuth (hb.chg hH.chg) (by omega)) rfl Try.underlying27) ?_
  try simp only [n0, n1, n2, n3, getD_cons_zero, getD_cons_succ, set_cons_zero, set_cons_succ, zero_add, add_zero, mul_one, zero_mul, m2, m3, m4]
  refine plan_p rfl rfl (pr_bin rfl rfl (by first | exact bin_lss_n  | exact bin_lss_i)) ?_
  try simp only [n0, n1, n2, n3, getD_cons_zero, getD_cons_succ, set_cons_zero, set_cons_succ, zero_add, add_zero, mul_one, zero_mul, m2, m3, m4]
  refine plan_nil hH ?_
  clear hH
  intro w86 hH
  refine hK85 _ _ ?_
  try clear hK85 K85
  refine wp_cond_split rfl (fun hc87 => ?_) (fun hc87 => ?_)
  ·
    try simp only [decide_eq_true_eq, decide_eq_false_iff_not, beq_iff_eq, bne_iff_ne, beq_eq_false_iff_ne, ne_eq, Bool.not_eq_true', Bool.not_eq_false', bne_eq_false_iff_eq, Nat.not_lt, Nat.not_le, gt_iff_lt, ge_iff_le] at hc87
    have hi := hc87
    refine wp_skip ?_
    refine hK84 _ _ ?_
    try clear hK84 K84
    refine wp_seq_k ?_
    intro K88 hK88
    refine wp_block ?_
    refine wp_seq_k ?_
    intro K89 hK89
    refine wp_region_plan [.p 0, .p 1, .p 2, .p 4, .p 5, .p 6, .q 3, .q 7, .p 8, .p 9, .p 10, .p 11, .p 12, .p 14, .p 15, .p 16, .p 19, .p 20, .p 21, .q 13, .q 17, .p 18, .q 22, .p 23, .p 24] (by kernel_rfl) (by kernel_rfl) (by kernel_rfl) (by kernel_rfl) (fun _ _ _ _ _ h => by first | exact h | exact BP.panic _ _ _ _ _ h) ?_
    refine plan_p rfl rfl pr_move ?_
    try simp only [n0, n1, n2, n3, getD_cons_zero, getD_cons_succ, set_cons_zero, set_cons_succ, zero_add, add_zero, mul_one, zero_mul, m2, m3, m4]
    refine plan_p rfl rfl pr_move ?_
    try simp only [n0, n1, n2, n3, getD_cons_zero, getD_cons_succ, set_cons_zero, set_cons_succ, zero_add, add_zero, mul_one, zero_mul, m2, m3, m4]
    refine plan_p rfl rfl (pr_idx_Sl (OwnC.sl hH 4 rfl hO40) rfl rfl Try.underlying27 sz5 (by first | omega | (first | (simp only [sealedL_len, List.length_map, List.length_range]; omega) | (simp; omega) | simp))) ?_
    try simp only [n0, n1, n2, n3, getD_cons_zero, getD_cons_succ, set_cons_zero, set_cons_succ, zero_add, add_zero, mul_one, zero_mul, m2, m3, m4]
    refine plan_p rfl rfl pr_move ?_
    try simp only [n0, n1, n2, n3, getD_cons_zero, getD_cons_succ, set_cons_zero, set_cons_succ, zero_add, add_zero, mul_one, zero_mul, m2, m3, m4]
    refine plan_p rfl rfl pr_move ?_
    try simp only [n0, n1, n2, n3, getD_cons_zero, getD_cons_succ, set_cons_zero, set_cons_succ, zero_add, add_zero, mul_one, zero_mul, m2, m3, m4]
    refine plan_p rfl rfl (pr_idx_Sl (OwnC.sl hH 5 rfl hO50) rfl rfl Try.underlying27 sz5 (by first | omega | (first | (simp only [sealedL_len, List.length_map, List.length_range]; omega) | (simp; omega) | simp))) ?_
    try simp only [n0, n1, n2, n3, getD_cons_zero, getD_cons_succ, set_cons_zero, set_cons_succ, zero_add, add_zero, mul_one, zero_mul, m2, m3, m4]
    refine plan_q rfl rfl (qr_load1 rfl Try.underlying5 rfl (Sl.cell (OwnC.sl hH 4 rfl hO40) (by first | omega | (first | (simp only [sealedL_len, List.length_map, List.length_range]; omega) | (simp; omega) | simp)))) ?_
    try simp only [n0, n1, n2, n3, getD_cons_zero, getD_cons_succ, set_cons_zero, set_cons_succ, zero_add, add_zero, mul_one, zero_mul, m2, m3, m4]
    refine plan_q rfl rfl (qr_load1 rfl Try.underlying5 rfl (Sl.cell (OwnC.sl hH 5 rfl hO50) (by first | omega | (first | (simp only [sealedL_len, List.length_map, List.length_range]; omega) | (simp; omega) | simp)))) ?_
    try simp only [n0, n1, n2, n3, getD_cons_zero, getD_cons_succ, set_cons_zero, set_cons_succ, zero_add, add_zero, mul_one, zero_mul, m2, m3, m4]
    refine plan_p rfl rfl (pr_bin rfl rfl (bin_neq_u8 _ _)) ?_
    try simp only [n0, n1, n2, n3, getD_cons_zero, getD_cons_succ, set_cons_zero, set_cons_succ, zero_add, add_zero, mul_one, zero_mul, m2, m3, m4]
    refine plan_p (v := BV false) rfl rfl (pr_move_v (by show BV (_ != _) = _; rw [sealed_hid _ _ _ _ _ hi, sealed_hid _ _ _ _ _ hi, bne_self_eq_false])) ?_
    try simp only [n0, n1, n2, n3, getD_cons_zero, getD_cons_succ, set_cons_zero, set_cons_succ, zero_add, add_zero, mul_one, zero_mul, m2, m3, m4]
    refine plan_p rfl rfl pr_move ?_
    try simp only [n0, n1, n2, n3, getD_cons_zero, getD_cons_succ, set_cons_zero, set_cons_succ, zero_add, add_zero, mul_one, zero_mul, m2, m3, m4]
    refine plan_p rfl rfl pr_move ?_
    try simp only [n0, n1, n2, n3, getD_cons_zero, getD_cons_succ, set_cons_zero, set_cons_succ, zero_add, add_zero, mul_one, zero_mul, m2, m3, m4]
    refine plan_p rfl rfl (pr_idx_Sl (OwnC.sl hH 4 rfl hO40) rfl rfl Try.underlying27 sz5 (by first | omega | (first | (simp only [sealedL_len, List.length_map, List.length_range]; omega) | (simp; omega) | simp))) ?_
    try simp only [n0, n1, n2, n3, getD_cons_zero, getD_cons_succ, set_cons_zero, set_cons_succ, zero_add, add_zero, mul_one, zero_mul, m2, m3, m4]
    refine plan_p rfl rfl pr_move ?_
    try simp only [n0, n1, n2, n3, getD_cons_zero, getD_cons_succ, set_cons_zero, set_cons_succ, zero_add, add_zero, mul_one, zero_mul, m2, m3, m4]
    refine plan_p rfl rfl pr_move ?_
    try simp only [n0, n1, n2, n3, getD_cons_zero, getD_cons_succ, set_cons_zero, set_cons_succ, zero_add, add_zero, mul_one, zero_mul, m2, m3, m4]
    refine plan_p rfl rfl (pr_idx_Sl (Sl.cuth (hb.chg hH.chg) (by omega)) rfl rfl Try.underlying27 sz5 (by first | omega | (first | (simp only [sealedL_len, List.length_map, List.length_range]; omega) | (simp; omega) | simp))) ?_
    try simp only [n0, n1, n2, n3, getD_cons_zero, getD_cons_succ, set_cons_zero, set_cons_succ, zero_add, add_zero, mul_one, zero_mul, m2, m3, m4]
    refine plan_p rfl rfl pr_move ?_
    try simp only [n0, n1, n2, n3, getD_cons_zero, getD_cons_succ, set_cons_zero, set_cons_succ, zero_add, add_zero, mul_one, zero_mul, m2, m3, m4]
    refine plan_p rfl rfl pr_move ?_
    try simp only [n0, n1, n2, n3, getD_cons_zero, getD_cons_succ, set_cons_zero, set_cons_succ, zero_add, add_zero, mul_one, zero_mul, m2, m3, m4]
    refine plan_p rfl rfl (pr_idx_Sl (OwnC.sl hH 7 rfl hO62) rfl rfl Try.underlying27 sz5 (by first | omega | (first | (simp only [sealedL_len, List.length_map, List.length_range]; omega) | (simp; omega) | simp))) ?_
    try simp only [n0, n1, n2, n3, getD_cons_zero, getD_cons_succ, set_cons_zero, set_cons_succ, zero_add, add_zero, mul_one, zero_mul, m2, m3, m4]
    refine plan_q rfl rfl (qr_load1 rfl Try.underlying5 rfl (Sl.cell (OwnC.sl hH 4 rfl hO40) (by first | omega | (first | (simp only [sealedL_len, List.length_map, List.length_range]; omega) | (simp; omega) | simp)))) ?_
    try simp only [n0, n1, n2, n3, getD_cons_zero, getD_cons_succ, set_cons_zero, set_cons_succ, zero_add, add_zero, mul_one, zero_mul, m2, m3, m4]
    refine plan_q rfl rfl (qr_load1 rfl Try.underlying5 rfl (Sl.cell (Sl.cuth (hb.chg hH.chg) (by omega)) (by first | omega | (first | (simp only [sealedL_len, List.length_map, List.length_range]; omega) | (simp; omega) | simp)))) ?_
    try simp only [n0, n1, n2, n3, getD_cons_zero, getD_cons_succ, set_cons_zero, set_cons_succ, zero_add, add_zero, mul_one, zero_mul, m2, m3, m4]
    refine plan_p rfl rfl (pr_bin rfl rfl (bin_xor_u8 _ _)) ?_
    try simp only [n0, n1, n2, n3, getD_cons_zero, getD_cons_succ, set_cons_zero, set_cons_succ, zero_add, add_zero, mul_one, zero_mul, m2, m3, m4]
    refine plan_q rfl rfl (qr_load1 rfl Try.underlying5 rfl (Sl.cell (OwnC.sl hH 7 rfl hO62) (by first | omega | (first | (simp only [sealedL_len, List.length_map, List.length_range]; omega) | (simp; omega) | simp)))) ?_
    try simp only [n0, n1, n2, n3, getD_cons_zero, getD_cons_succ, set_cons_zero, set_cons_succ, zero_add, add_zero, mul_one, zero_mul, m2, m3, m4]
    refine plan_p rfl rfl (pr_bin rfl rfl (bin_neq_u8 _ _)) ?_
    try simp only [n0, n1, n2, n3, getD_cons_zero, getD_cons_succ, set_cons_zero, set_cons_succ, zero_add, add_zero, mul_one, zero_mul, m2, m3, m4]
    refine plan_p rfl rfl (pr_pick_f rfl) ?_
    try simp only [n0, n1, n2, n3, getD_cons_zero, getD_cons_succ, set_cons_zero, set_cons_succ, zero_add, add_zero, mul_one, zero_mul, m2, m3, m4]
    refine plan_nil hH ?_
    clear hH
    intro w90 hH
    refine hK89 _ _ ?_
    try clear hK89 K89
    refine wp_cond_false (by
      show BV ((_ ^^^ (bl.take (min bl.length 120)).getD i 0) != _) = _
      rw [sealed_hid _ _ _ _ _ hi, sealed_hid _ _ _ [] _ (by simpa using hi), zeros_getD, UInt8.xor_comm ((bl.take (min bl.length 120)).getD i 0 ^^^ _), ← UInt8.xor_assoc, UInt8.xor_self, bne_self_eq_false]) ?_
    refine wp_skip ?_
    refine hK88 _ _ ?_
    try clear hK88 K88
    refine wp_region_text [.p 0, .p 1, .p 2] rfl ?_
    refine plan_p rfl rfl pr_move ?_
    try simp only [n0, n1, n2, n3, getD_cons_zero, getD_cons_succ, set_cons_zero, set_cons_succ, zero_add, add_zero, mul_one, zero_mul, m2, m3, m4]
    refine plan_p rfl rfl (pr_bin rfl rfl (by first | exact bin_add_n (n := 1) (by first | omega | (first | (simp only [sealedL_len, List.length_map, List.length_range]; omega) | (simp; omega) | simp)) | exact bin_add_i (by first | omega | (first | (simp only [sealedL_len, List.length_map, List.length_range]; omega) | (simp; omega) | simp)) (by first | omega | (first | (simp only [sealedL_len, List.length_map, List.length_range]; omega) | (simp; omega) | simp)))) ?_
    try simp only [n0, n1, n2, n3, getD_cons_zero, getD_cons_succ, set_cons_zero, set_cons_succ, zero_add, add_zero, mul_one, zero_mul, m2, m3, m4]
    refine plan_p rfl rfl pr_assign ?_
    try simp only [n0, n1, n2, n3, getD_cons_zero, getD_cons_succ, set_cons_zero, set_cons_succ, zero_add, add_zero, mul_one, zero_mul, m2, m3, m4]
    refine plan_nil hH ?_
    clear hH
    intro w91 hH
    try simp only [Exit.then, Exit.inBlock, ↓reduceIte, Nat.reduceEqDiff]
    refine ⟨(bl.take (min bl.length 120)).length - (i + 1), ?_, _, rfl, by kernel_rfl, ?_⟩
    · first | omega | (omega)
    simp only [getAll, List.map_cons, List.map_nil, getD_cons_zero, getD_cons_succ]
    refine ⟨i + 1, rfl, ?_, rfl, ?_⟩
    ·
      exact hH
    · first | omega | (omega)
  ·
    try simp only [decide_eq_true_eq, decide_eq_false_iff_not, beq_iff_eq, bne_iff_ne, beq_eq_false_iff_ne, ne_eq, Bool.not_eq_true', Bool.not_eq_false', bne_eq_false_iff_eq, Nat.not_lt, Nat.not_le, gt_iff_lt, ge_iff_le] at hc87
    refine wp_exit ?_
    try simp only [Exit.then, Exit.inBlock, ↓reduceIte, Nat.reduceEqDiff]
    refine hK67 _ _ ?_
    try clear hK67 K67
    refine wp_seq_k ?_
    intro K92 hK92
    refine wp_region_text [.p 0, .p 1, .p 2, .p 3, .p 4, .p 5, .p 6, .p 7, .p 8, .p 9, .p 10, .p 11, .p 12, .p 13, .p 14, .p 15, .p 16, .p 17, .p 18, .p 19, .p 20] rfl ?_
    refine plan_p rfl rfl pr_move ?_
    try simp only [n0, n1, n2, n3, getD_cons_zero, getD_cons_succ, set_cons_zero, set_cons_succ, zero_add, add_zero, mul_one, zero_mul, m2, m3, m4]
    refine plan_p rfl rfl (pr_len_sl rfl Try.underlying27) ?_
    try simp only [n0, n1, n2, n3, getD_cons_zero, getD_cons_succ, set_cons_zero, set_cons_succ, zero_add, add_zero, mul_one, zero_mul, m2, m3, m4]
    refine plan_p rfl rfl pr_move ?_
    try simp only [n0, n1, n2, n3, getD_cons_zero, getD_cons_succ, set_cons_zero, set_cons_succ, zero_add, add_zero, mul_one, zero_mul, m2, m3, m4]
    refine plan_p rfl rfl (pr_len_Sl (Sl.cuth (hb.chg hH.chg) (by omega)) rfl Try.underlying27) ?_
    try simp only [n0, n1, n2, n3, getD_cons_zero, getD_cons_succ, set_cons_zero, set_cons_succ, zero_add, add_zero, mul_one, zero_mul, m2, m3, m4]
    refine plan_p rfl rfl (pr_bin rfl rfl (by first | exact bin_add_n (n := 16) (by first | omega | (first | (simp only [sealedL_len, List.length_map, List.length_range]; omega) | (simp; omega) | simp)) | exact bin_add_i (by first | omega | (first | (simp only [sealedL_len, List.length_map, List.length_range]; omega) | (simp; omega) | simp)) (by first | omega | (first | (simp only [sealedL_len, List.length_map, List.length_range]; omega) | (simp; omega) | simp)))) ?_
    try simp only [n0, n1, n2, n3, getD_cons_zero, getD_cons_succ, set_cons_zero, set_cons_succ, zero_add, add_zero, mul_one, zero_mul, m2, m3, m4]
    refine plan_p rfl rfl (pr_bin rfl rfl (by first | exact bin_eql_n  | exact bin_eql_i)) ?_
    try simp only [n0, n1, n2, n3, getD_cons_zero, getD_cons_succ, set_cons_zero, set_cons_succ, zero_add, add_zero, mul_one, zero_mul, m2, m3, m4]
    refine plan_p (v := BV true) rfl rfl (pr_move_v (by show BV (_ == _) = _; exact congrArg BV (by simp))) ?_
    try simp only [n0, n1, n2, n3, getD_cons_zero, getD_cons_succ, set_cons_zero, set_cons_succ, zero_add, add_zero, mul_one, zero_mul, m2, m3, m4]
    refine plan_p rfl rfl pr_move ?_
    try simp only [n0, n1, n2, n3, getD_cons_zero, getD_cons_succ, set_cons_zero, set_cons_succ, zero_add, add_zero, mul_one, zero_mul, m2, m3, m4]
    refine plan_p rfl rfl (pr_len_sl rfl Try.underlying27) ?_
    try simp only [n0, n1, n2, n3, getD_cons_zero, getD_cons_succ, set_cons_zero, set_cons_succ, zero_add, add_zero, mul_one, zero_mul, m2, m3, m4]
    refine plan_p rfl rfl pr_move ?_
    try simp only [n0, n1, n2, n3, getD_cons_zero, getD_cons_succ, set_cons_zero, set_cons_succ, zero_add, add_zero, mul_one, zero_mul, m2, m3, m4]
    refine plan_p rfl rfl (pr_len_sl rfl Try.underlying27) ?_
    try simp only [n0, n1, n2, n3, getD_cons_zero, getD_cons_succ, set_cons_zero, set_cons_succ, zero_add, add_zero, mul_one, zero_mul, m2, m3, m4]
    refine plan_p rfl rfl (pr_bin rfl rfl (by first | exact bin_eql_n  | exact bin_eql_i)) ?_
    try simp only [n0, n1, n2, n3, getD_cons_zero, getD_cons_succ, set_cons_zero, set_cons_succ, zero_add, add_zero, mul_one, zero_mul, m2, m3, m4]
    refine plan_p rfl rfl (pr_pick_t rfl) ?_
    try simp only [n0, n1, n2, n3, getD_cons_zero, getD_cons_succ, set_cons_zero, set_cons_succ, zero_add, add_zero, mul_one, zero_mul, m2, m3, m4]
    refine plan_p (v := BV true) rfl rfl (pr_move_v (by show BV (_ == _) = _; exact congrArg BV (by simp))) ?_
    try simp only [n0, n1, n2, n3, getD_cons_zero, getD_cons_succ, set_cons_zero, set_cons_succ, zero_add, add_zero, mul_one, zero_mul, m2, m3, m4]
    refine plan_p rfl rfl pr_move ?_
    try simp only [n0, n1, n2, n3, getD_cons_zero, getD_cons_succ, set_cons_zero, set_cons_succ, zero_add, add_zero, mul_one, zero_mul, m2, m3, m4]
    refine plan_p rfl rfl (pr_len_sl rfl Try.underlying27) ?_
    try simp only [n0, n1, n2, n3, getD_cons_zero, getD_cons_succ, set_cons_zero, set_cons_succ, zero_add, add_zero, mul_one, zero_mul, m2, m3, m4]
    refine plan_p rfl rfl pr_move ?_
    try simp only [n0, n1, n2, n3, getD_cons_zero, getD_cons_succ, set_cons_zero, set_cons_succ, zero_add, add_zero, mul_one, zero_mul, m2, m3, m4]
    refine plan_p rfl rfl (pr_len_sl rfl Try.underlying27) ?_
    try simp only [n0, n1, n2, n3, getD_cons_zero, getD_cons_succ, set_cons_zero, set_cons_succ, zero_add, add_zero, mul_one, zero_mul, m2, m3, m4]
    refine plan_p rfl rfl (pr_bin rfl rfl (by first | exact bin_eql_n  | exact bin_eql_i)) ?_
    try simp only [n0, n1, n2, n3, getD_cons_zero, getD_cons_succ, set_cons_zero, set_cons_succ, zero_add, add_zero, mul_one, zero_mul, m2, m3, m4]
    refine plan_p rfl rfl (pr_pick_t rfl) ?_
    try simp only [n0, n1, n2, n3, getD_cons_zero, getD_cons_succ, set_cons_zero, set_cons_succ, zero_add, add_zero, mul_one, zero_mul, m2, m3, m4]
    refine plan_p rfl rfl pr_assign ?_
    try simp only [n0, n1, n2, n3, getD_cons_zero, getD_cons_succ, set_cons_zero, set_cons_succ, zero_add, add_zero, mul_one, zero_mul, m2, m3, m4]
    refine plan_nil hH ?_
    clear hH
    intro w93 hH
    refine hK92 _ _ ?_
    try clear hK92 K92
    refine wp_ret ?_
    try simp only [Exit.then, Exit.inBlock, ↓reduceIte, Nat.reduceEqDiff]
    refine BP.ret1 rfl rfl ?_
    exact ⟨congrArg BV (by simp), hH.chg⟩

end Go.Proofs.Ytjbohfonjalfnaa
