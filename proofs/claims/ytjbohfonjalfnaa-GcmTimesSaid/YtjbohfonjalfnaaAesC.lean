/- The walk of the law AesCounts. No conditions. -/
import Derived.Test.YtjbohfonjalfnaaAesB
import Derived.Test.YtjbohfonjalfnaaMore
set_option linter.unusedSimpArgs false
set_option linter.unusedVariables false
set_option maxRecDepth 100000
set_option maxHeartbeats 4000000
namespace Go.Proofs.Ytjbohfonjalfnaa
open Go

theorem strm_cut (K c : Nat → UInt8) (n i : Nat) (h : i < n) (l : List UInt8) (hl : ∀ j, l.getD j 0 = 0) :
    ((strm K c 0 l (16 * n)).drop (16 * i)).take (16 * i + 16 - 16 * i) = (List.range 16).map fun j => aesR K (ctrF c (be32 c + UInt32.ofNat i)) 10 j := by
  apply List.ext_getElem (by simp [strm]; omega)
  intro j h1 h2
  have hj : j < 16 := by simpa using h2
  simp only [strm, List.getElem_take, List.getElem_drop, List.getElem_map, List.getElem_range, hl]
  rw [UInt8.zero_xor]
  unfold ksF
  rw [show (0 + (16 * i + j)) / 16 = i by omega, show (0 + (16 * i + j)) % 16 = j by omega]
theorem ctr_list (cf : Nat → UInt8) (n : UInt32) (l : List UInt8) (hl : ∀ i, i < 12 → l.getD i 0 = cf i) (h12 : l.length = 12) :
    ∀ i, i < 16 → (l ++ [(n >>> 24).toUInt8, (n >>> 16).toUInt8, (n >>> 8).toUInt8, n.toUInt8]).getD i 0 = ctrF cf n i := by
  intro i hi
  have h : i < 12 ∨ i = 12 ∨ i = 13 ∨ i = 14 ∨ i = 15 := by omega
  rcases h with h | rfl | rfl | rfl | rfl
  · have e := hl i h
    rw [ctr_head cf n i h, ← e]
    simp only [List.getD, List.getElem?_append, h12, h, if_true]
  all_goals simp [List.getD, List.getElem?_append, h12, ctrF]
theorem counts_eq {K cf q : Nat → UInt8} {l : List UInt8} {m n i : Nat} {x : UInt32} (h : i < n) (hm : m = 16 * n) (hl : ∀ j, l.getD j 0 = 0) (hx : x = be32 cf + UInt32.ofNat i) (hq : ∀ j, j < 16 → q j = ctrF cf x j) :
    (List.range 16).map (fun j => aesR K q 10 j) = ((strm K cf 0 l m).drop (16 * i)).take (16 * i + 16 - 16 * i) := by
  subst hm hx
  rw [strm_cut K cf n i h l hl]
  refine List.map_congr_left fun j hj => ?_

  exact aesR_congr (fun _ _ => rfl) hq 10 (Nat.le_refl _) j (List.mem_range.1 hj)
theorem zeros_getD (n j : Nat) : ((List.range n).map fun _ => (0 : UInt8)).getD j 0 = 0 := by
  simp only [List.getD, List.getElem?_map]
  cases (List.range n)[j]? <;> rfl
theorem take_getD (l : List UInt8) {n i : Nat} (h : i < n) : (l.take n).getD i 0 = l.getD i 0 := by
  simp only [List.getD, List.getElem?_take, h, if_true]

theorem counts_calls (f g : Nat → UInt8) (a : Int) (sv : Value) (l : List UInt8) (count : Int) (w : World) (hb : Sl w sv l) :
    Ret Try.prog 8 #[.agg (flowC f g a sv), I64 count] w fun v w' => v = BV true ∧ Chg [] w w' := by
  refine Ret.enter Try.func8 rfl ?_
  simp only [Try.ntmps8, List.size_toArray, List.length_cons, List.length_nil, Nat.reduceAdd, Nat.reduceSub, frame_enter, List.replicate_succ, List.replicate_zero, List.nil_append, List.cons_append]
  have hH := Hp.start [] w
  refine wp_seq_k ?_
  intro K1 hK1
  refine wp_region_text [.x 0, .p 1] rfl ?_
  refine plan_box rfl rfl hH rfl ?_
  clear hH
  intro b2 w3 hH
  try simp only [n0, n1, n2, n3, List.getD_cons_zero, List.getD_cons_succ, List.set_cons_zero, List.set_cons_succ, Nat.zero_add, Nat.add_zero, Nat.mul_one, Nat.zero_mul, m2, m3, m4, m5, m6, m7, Value.cells, arr8_set, arr32_set, arr64_set] at hH ⊢
  refine plan_p rfl rfl pr_assign ?_
  try simp only [n0, n1, n2, n3, List.getD_cons_zero, List.getD_cons_succ, List.set_cons_zero, List.set_cons_succ, Nat.zero_add, Nat.add_zero, Nat.mul_one, Nat.zero_mul, m2, m3, m4]
  refine plan_nil hH ?_
  clear hH
  intro w4 hH
  refine hK1 _ _ ?_
  try clear hK1 K1
  refine wp_seq_k ?_
  intro K5 hK5
  refine wp_region_text [.p 0, .p 1, .x 2, .p 3, .p 4, .p 5, .p 6, .p 7] rfl ?_
  refine plan_p rfl rfl (pr_fieldAddr 0 rfl Try.underlying40 rfl rfl sz22) ?_
  try simp only [n0, n1, n2, n3, List.getD_cons_zero, List.getD_cons_succ, List.set_cons_zero, List.set_cons_succ, Nat.zero_add, Nat.add_zero, Nat.mul_one, Nat.zero_mul, m2, m3, m4]
  refine plan_p rfl rfl (pr_slice_arr_all rfl Try.underlying22 sz5) ?_
  try simp only [n0, n1, n2, n3, List.getD_cons_zero, List.getD_cons_succ, List.set_cons_zero, List.set_cons_succ, Nat.zero_add, Nat.add_zero, Nat.mul_one, Nat.zero_mul, m2, m3, m4]
  try simp only [Nat.mul_one, Nat.zero_add, Nat.add_sub_cancel_left]
  refine plan_callx rfl rfl hH cf15 (fun w' hH => new_calls _ _ w' (flow_key (hH.blk 0 rfl)) (by simp)) rfl (fun _ _ _ h => h.choose_spec.2.1) ?_
  clear hH
  intro w6 v7 w8 hH hp9
  obtain ⟨b10, rfl, hg, hfr, hbk⟩ := hp9
  replace hH := hH.callnew hg hbk hfr
  clear hg hfr hbk
  try simp only [n0, n1, n2, n3, List.getD_cons_zero, List.getD_cons_succ, List.set_cons_zero, List.set_cons_succ, Nat.zero_add, Nat.add_zero, Nat.mul_one, Nat.zero_mul, m2, m3, m4, m5, m6, m7, Value.cells, arr8_set, arr32_set, arr64_set] at hH ⊢
  try simp only [n0, n1, n2, n3, List.getD_cons_zero, List.getD_cons_succ, List.set_cons_zero, List.set_cons_succ, Nat.zero_add, Nat.add_zero, Nat.mul_one, Nat.zero_mul, m2, m3, m4]
  refine plan_p rfl rfl pr_move ?_
  try simp only [n0, n1, n2, n3, List.getD_cons_zero, List.getD_cons_succ, List.set_cons_zero, List.set_cons_succ, Nat.zero_add, Nat.add_zero, Nat.mul_one, Nat.zero_mul, m2, m3, m4]
  refine plan_p rfl rfl (pr_extract rfl rfl) ?_
  try simp only [n0, n1, n2, n3, List.getD_cons_zero, List.getD_cons_succ, List.set_cons_zero, List.set_cons_succ, Nat.zero_add, Nat.add_zero, Nat.mul_one, Nat.zero_mul, m2, m3, m4]
  refine plan_p rfl rfl (pr_extract rfl rfl) ?_
  try simp only [n0, n1, n2, n3, List.getD_cons_zero, List.getD_cons_succ, List.set_cons_zero, List.set_cons_succ, Nat.zero_add, Nat.add_zero, Nat.mul_one, Nat.zero_mul, m2, m3, m4]
  refine plan_p rfl rfl pr_assign ?_
  try simp only [n0, n1, n2, n3, List.getD_cons_zero, List.getD_cons_succ, List.set_cons_zero, List.set_cons_succ, Nat.zero_add, Nat.add_zero, Nat.mul_one, Nat.zero_mul, m2, m3, m4]
  refine plan_p rfl rfl pr_assign ?_
  try simp only [n0, n1, n2, n3, List.getD_cons_zero, List.getD_cons_succ, List.set_cons_zero, List.set_cons_succ, Nat.zero_add, Nat.add_zero, Nat.mul_one, Nat.zero_mul, m2, m3, m4]
  refine plan_nil hH ?_
  clear hH
  intro w11 hH
  refine hK5 _ _ ?_
  try clear hK5 K5
  refine wp_seq_k ?_
  intro K12 hK12
  refine wp_seq_k ?_
  intro K13 hK13
  refine wp_region_text [.q 0, .p 1, .p 2, .p 3, .p 4, .p 5] rfl ?_
  refine plan_q rfl rfl (qr_call cf16 (fun w' hw => turns_calls w') rfl) ?_
  try simp only [n0, n1, n2, n3, List.getD_cons_zero, List.getD_cons_succ, List.set_cons_zero, List.set_cons_succ, Nat.zero_add, Nat.add_zero, Nat.mul_one, Nat.zero_mul, m2, m3, m4]
  refine plan_p rfl rfl (pr_not rfl) ?_
  try simp only [n0, n1, n2, n3, List.getD_cons_zero, List.getD_cons_succ, List.set_cons_zero, List.set_cons_succ, Nat.zero_add, Nat.add_zero, Nat.mul_one, Nat.zero_mul, m2, m3, m4]
  refine plan_p (v := BV false) rfl rfl (pr_move_v rfl) ?_
  try simp only [n0, n1, n2, n3, List.getD_cons_zero, List.getD_cons_succ, List.set_cons_zero, List.set_cons_succ, Nat.zero_add, Nat.add_zero, Nat.mul_one, Nat.zero_mul, m2, m3, m4]
  refine plan_p rfl rfl pr_move ?_
  try simp only [n0, n1, n2, n3, List.getD_cons_zero, List.getD_cons_succ, List.set_cons_zero, List.set_cons_succ, Nat.zero_add, Nat.add_zero, Nat.mul_one, Nat.zero_mul, m2, m3, m4]
  refine plan_p rfl rfl (pr_bin rfl rfl (by first | exact bin_neq_n (n := 0)  | exact bin_neq_i)) ?_
  try simp only [n0, n1, n2, n3, List.getD_cons_zero, List.getD_cons_succ, List.set_cons_zero, List.set_cons_succ, Nat.zero_add, Nat.add_zero, Nat.mul_one, Nat.zero_mul, m2, m3, m4]
  refine plan_p rfl rfl (pr_pick_f rfl) ?_
  try simp only [n0, n1, n2, n3, List.getD_cons_zero, List.getD_cons_succ, List.set_cons_zero, List.set_cons_succ, Nat.zero_add, Nat.add_zero, Nat.mul_one, Nat.zero_mul, m2, m3, m4]
  refine plan_nil hH ?_
  clear hH
  intro w14 hH
  refine hK13 _ _ ?_
  try clear hK13 K13
  refine wp_cond_false rfl ?_
  refine wp_skip ?_
  refine hK12 _ _ ?_
  try clear hK12 K12
  refine wp_seq_k ?_
  intro K15 hK15
  refine wp_region_text [.p 0, .p 1, .p 2, .p 3, .p 4, .p 5] rfl ?_
  refine plan_p rfl rfl pr_move ?_
  try simp only [n0, n1, n2, n3, List.getD_cons_zero, List.getD_cons_succ, List.set_cons_zero, List.set_cons_succ, Nat.zero_add, Nat.add_zero, Nat.mul_one, Nat.zero_mul, m2, m3, m4]
  refine plan_p rfl rfl (pr_conv rfl (by first | exact cnv_n_u64 Try.underlying3 Try.underlying43 | exact cnv_i_u64 Try.underlying3 Try.underlying43)) ?_
  try simp only [n0, n1, n2, n3, List.getD_cons_zero, List.getD_cons_succ, List.set_cons_zero, List.set_cons_succ, Nat.zero_add, Nat.add_zero, Nat.mul_one, Nat.zero_mul, m2, m3, m4]
  refine plan_p rfl rfl (pr_bin rfl rfl (bin_rem_u64 _ 6 (by decide))) ?_
  try simp only [n0, n1, n2, n3, List.getD_cons_zero, List.getD_cons_succ, List.set_cons_zero, List.set_cons_succ, Nat.zero_add, Nat.add_zero, Nat.mul_one, Nat.zero_mul, m2, m3, m4]
  refine plan_p rfl rfl (pr_conv rfl (cnv_u64_n _ Try.underlying43 Try.underlying3 (by first | omega | (first | exact Nat.lt_trans (u64_mod_k _ 6 6 rfl (by omega)) (by omega) | (simp [strm_len] <;> omega))))) ?_
  try simp only [n0, n1, n2, n3, List.getD_cons_zero, List.getD_cons_succ, List.set_cons_zero, List.set_cons_succ, Nat.zero_add, Nat.add_zero, Nat.mul_one, Nat.zero_mul, m2, m3, m4]
  refine plan_p rfl rfl (pr_bin rfl rfl (by first | exact bin_add_n (m := 1) (by first | omega | (first | exact Nat.lt_trans (u64_mod_k _ 6 6 rfl (by omega)) (by omega) | (simp [strm_len] <;> omega))) | exact bin_add_i (by first | omega | (first | exact Nat.lt_trans (u64_mod_k _ 6 6 rfl (by omega)) (by omega) | (simp [strm_len] <;> omega))) (by first | omega | (first | exact Nat.lt_trans (u64_mod_k _ 6 6 rfl (by omega)) (by omega) | (simp [strm_len] <;> omega))))) ?_
  try simp only [n0, n1, n2, n3, List.getD_cons_zero, List.getD_cons_succ, List.set_cons_zero, List.set_cons_succ, Nat.zero_add, Nat.add_zero, Nat.mul_one, Nat.zero_mul, m2, m3, m4]
  refine plan_p rfl rfl pr_assign ?_
  try simp only [n0, n1, n2, n3, List.getD_cons_zero, List.getD_cons_succ, List.set_cons_zero, List.set_cons_succ, Nat.zero_add, Nat.add_zero, Nat.mul_one, Nat.zero_mul, m2, m3, m4]
  refine plan_nil hH ?_
  clear hH
  intro w16 hH
  have hk : (UInt64.ofNat (count % 18446744073709551616).toNat % 6).toNat < 6 := u64_mod_k _ _ 6 rfl (by omega)
  generalize (UInt64.ofNat (count % 18446744073709551616).toNat % 6).toNat = k at hk ⊢
  refine hK15 _ _ ?_
  try clear hK15 K15
  refine wp_seq_k ?_
  intro K17 hK17
  refine wp_region_plan [.p 0, .p 1, .p 2, .p 3, .p 4, .x 5, .x 6, .p 7, .p 8, .p 9, .p 10, .p 11] (by kernel_rfl) (by kernel_rfl) (by kernel_rfl) (by kernel_rfl) (fun _ _ _ _ _ h => by first | exact h | exact BP.panic _ _ _ _ _ h) ?_
  refine plan_p rfl rfl pr_move ?_
  try simp only [n0, n1, n2, n3, List.getD_cons_zero, List.getD_cons_succ, List.set_cons_zero, List.set_cons_succ, Nat.zero_add, Nat.add_zero, Nat.mul_one, Nat.zero_mul, m2, m3, m4]
  refine plan_p rfl rfl (pr_fieldAddr 16 rfl Try.underlying40 rfl rfl sz22) ?_
  try simp only [n0, n1, n2, n3, List.getD_cons_zero, List.getD_cons_succ, List.set_cons_zero, List.set_cons_succ, Nat.zero_add, Nat.add_zero, Nat.mul_one, Nat.zero_mul, m2, m3, m4]
  refine plan_p rfl rfl (pr_slice_arr_all rfl Try.underlying22 sz5) ?_
  try simp only [n0, n1, n2, n3, List.getD_cons_zero, List.getD_cons_succ, List.set_cons_zero, List.set_cons_succ, Nat.zero_add, Nat.add_zero, Nat.mul_one, Nat.zero_mul, m2, m3, m4]
  try simp only [Nat.mul_one, Nat.zero_add, Nat.add_sub_cancel_left]
  refine plan_p rfl rfl pr_move ?_
  try simp only [n0, n1, n2, n3, List.getD_cons_zero, List.getD_cons_succ, List.set_cons_zero, List.set_cons_succ, Nat.zero_add, Nat.add_zero, Nat.mul_one, Nat.zero_mul, m2, m3, m4]
  refine plan_p rfl rfl (pr_bin rfl rfl (by first | exact bin_mul_n (m := 16) (by first | omega | (first | exact Nat.lt_trans (u64_mod_k _ 6 6 rfl (by omega)) (by omega) | (simp [strm_len] <;> omega))) | exact bin_mul_i (by first | omega | (first | exact Nat.lt_trans (u64_mod_k _ 6 6 rfl (by omega)) (by omega) | (simp [strm_len] <;> omega))) (by first | omega | (first | exact Nat.lt_trans (u64_mod_k _ 6 6 rfl (by omega)) (by omega) | (simp [strm_len] <;> omega))))) ?_
  try simp only [n0, n1, n2, n3, List.getD_cons_zero, List.getD_cons_succ, List.set_cons_zero, List.set_cons_succ, Nat.zero_add, Nat.add_zero, Nat.mul_one, Nat.zero_mul, m2, m3, m4]
  refine plan_make rfl rfl hH rfl rfl Try.underlying27 sz5 bz5 ze5 rfl (by first | omega | (first | exact Nat.lt_trans (u64_mod_k _ 6 6 rfl (by omega)) (by omega) | (simp [strm_len] <;> omega))) (by first | omega | (first | exact Nat.lt_trans (u64_mod_k _ 6 6 rfl (by omega)) (by omega) | (simp [strm_len] <;> omega))) (by first | omega | (first | exact Nat.lt_trans (u64_mod_k _ 6 6 rfl (by omega)) (by omega) | (simp [strm_len] <;> omega))) ?_
  clear hH
  intro b18 w19 hH
  try simp only [n0, n1, n2, n3, List.getD_cons_zero, List.getD_cons_succ, List.set_cons_zero, List.set_cons_succ, Nat.zero_add, Nat.add_zero, Nat.mul_one, Nat.zero_mul, m2, m3, m4] at hH ⊢
  rw [made_arr8] at hH
  try simp only [n0, n1, n2, n3, List.getD_cons_zero, List.getD_cons_succ, List.set_cons_zero, List.set_cons_succ, Nat.zero_add, Nat.add_zero, Nat.mul_one, Nat.zero_mul, m2, m3, m4, m5, m6, m7, Value.cells, arr8_set, arr32_set, arr64_set] at hH ⊢
  refine plan_callx rfl rfl hH cf21 (fun w' hH => stream_calls _ _ (fun i => ((List.range 16).map fun i => g i).getD i 0) _ _ 0 _ _ w' (hH.blk 1 rfl) (flow_ctr (hH.blk 0 rfl)) (by simp) (fun i hi => rfl) (OwnC.sl hH 2 rfl OwnC.made) (by omega) (by first | omega | (simp [strm_len]; omega))) rfl (fun _ _ _ h => by obtain ⟨_, _, _, _, hg, _⟩ := h; exact hg) ?_
  clear hH
  intro w20 v21 w22 hH hp23
  obtain ⟨o24, cap25, cs26, rfl, hg, hO27, hfr⟩ := hp23
  replace hH := hH.callown hg hfr
  clear hg hfr
  try simp only [n0, n1, n2, n3, List.getD_cons_zero, List.getD_cons_succ, List.set_cons_zero, List.set_cons_succ, Nat.zero_add, Nat.add_zero, Nat.mul_one, Nat.zero_mul, m2, m3, m4, m5, m6, m7, Value.cells, arr8_set, arr32_set, arr64_set] at hH ⊢
  try simp only [n0, n1, n2, n3, List.getD_cons_zero, List.getD_cons_succ, List.set_cons_zero, List.set_cons_succ, Nat.zero_add, Nat.add_zero, Nat.mul_one, Nat.zero_mul, m2, m3, m4]
  refine plan_p rfl rfl pr_move ?_
  try simp only [n0, n1, n2, n3, List.getD_cons_zero, List.getD_cons_succ, List.set_cons_zero, List.set_cons_succ, Nat.zero_add, Nat.add_zero, Nat.mul_one, Nat.zero_mul, m2, m3, m4]
  refine plan_p rfl rfl (pr_extract rfl rfl) ?_
  try simp only [n0, n1, n2, n3, List.getD_cons_zero, List.getD_cons_succ, List.set_cons_zero, List.set_cons_succ, Nat.zero_add, Nat.add_zero, Nat.mul_one, Nat.zero_mul, m2, m3, m4]
  refine plan_p rfl rfl (pr_extract rfl rfl) ?_
  try simp only [n0, n1, n2, n3, List.getD_cons_zero, List.getD_cons_succ, List.set_cons_zero, List.set_cons_succ, Nat.zero_add, Nat.add_zero, Nat.mul_one, Nat.zero_mul, m2, m3, m4]
  refine plan_p rfl rfl pr_assign ?_
  try simp only [n0, n1, n2, n3, List.getD_cons_zero, List.getD_cons_succ, List.set_cons_zero, List.set_cons_succ, Nat.zero_add, Nat.add_zero, Nat.mul_one, Nat.zero_mul, m2, m3, m4]
  refine plan_p rfl rfl pr_assign ?_
  try simp only [n0, n1, n2, n3, List.getD_cons_zero, List.getD_cons_succ, List.set_cons_zero, List.set_cons_succ, Nat.zero_add, Nat.add_zero, Nat.mul_one, Nat.zero_mul, m2, m3, m4]
  refine plan_nil hH ?_
  clear hH
  intro w28 hH
  refine hK17 _ _ ?_
  try clear hK17 K17
  refine wp_seq_k ?_
  intro K29 hK29
  refine wp_seq_k ?_
  intro K30 hK30
  refine wp_region_text [.p 0, .p 1] rfl ?_
  refine plan_p rfl rfl pr_move ?_
  try simp only [n0, n1, n2, n3, List.getD_cons_zero, List.getD_cons_succ, List.set_cons_zero, List.set_cons_succ, Nat.zero_add, Nat.add_zero, Nat.mul_one, Nat.zero_mul, m2, m3, m4]
  refine plan_p rfl rfl (pr_bin rfl rfl (by first | exact bin_neq_n (n := 0)  | exact bin_neq_i)) ?_
  try simp only [n0, n1, n2, n3, List.getD_cons_zero, List.getD_cons_succ, List.set_cons_zero, List.set_cons_succ, Nat.zero_add, Nat.add_zero, Nat.mul_one, Nat.zero_mul, m2, m3, m4]
  refine plan_nil hH ?_
  clear hH
  intro w31 hH
  refine hK30 _ _ ?_
  try clear hK30 K30
  refine wp_cond_false rfl ?_
  refine wp_skip ?_
  refine hK29 _ _ ?_
  try clear hK29 K29
  refine wp_seq_k ?_
  intro K32 hK32
  refine wp_region_text [.p 0, .p 1, .q 2, .p 3, .p 4, .p 5, .p 6, .q 7, .p 8, .p 9, .p 10, .p 11, .p 12, .q 13, .p 14, .p 15, .p 16, .p 17, .p 18, .q 19, .p 20, .p 21, .p 22] rfl ?_
  refine plan_p rfl rfl (pr_fieldAddr 16 rfl Try.underlying40 rfl rfl sz22) ?_
  try simp only [n0, n1, n2, n3, List.getD_cons_zero, List.getD_cons_succ, List.set_cons_zero, List.set_cons_succ, Nat.zero_add, Nat.add_zero, Nat.mul_one, Nat.zero_mul, m2, m3, m4]
  refine plan_p rfl rfl (pr_idxA1 (i := 12) rfl rfl Try.underlying22 sz5 (by first | omega | (first | exact Nat.lt_trans (u64_mod_k _ 6 6 rfl (by omega)) (by omega) | (simp [strm_len] <;> omega)))) ?_
  try simp only [n0, n1, n2, n3, List.getD_cons_zero, List.getD_cons_succ, List.set_cons_zero, List.set_cons_succ, Nat.zero_add, Nat.add_zero, Nat.mul_one, Nat.zero_mul, m2, m3, m4]
  refine plan_q rfl rfl (qr_load1 rfl Try.underlying5 rfl ((hH.blk 0 rfl).cell (flowC_ctr (i := 12) (by omega)))) ?_
  try simp only [n0, n1, n2, n3, List.getD_cons_zero, List.getD_cons_succ, List.set_cons_zero, List.set_cons_succ, Nat.zero_add, Nat.add_zero, Nat.mul_one, Nat.zero_mul, m2, m3, m4]
  refine plan_p rfl rfl (pr_conv rfl (cnv_u8_u32 _ Try.underlying5 Try.underlying45)) ?_
  try simp only [n0, n1, n2, n3, List.getD_cons_zero, List.getD_cons_succ, List.set_cons_zero, List.set_cons_succ, Nat.zero_add, Nat.add_zero, Nat.mul_one, Nat.zero_mul, m2, m3, m4]
  refine plan_p rfl rfl (pr_bin rfl rfl (bin_shlc_u32 24 24 (by decide) rfl _)) ?_
  try simp only [n0, n1, n2, n3, List.getD_cons_zero, List.getD_cons_succ, List.set_cons_zero, List.set_cons_succ, Nat.zero_add, Nat.add_zero, Nat.mul_one, Nat.zero_mul, m2, m3, m4]
  refine plan_p rfl rfl (pr_fieldAddr 16 rfl Try.underlying40 rfl rfl sz22) ?_
  try simp only [n0, n1, n2, n3, List.getD_cons_zero, List.getD_cons_succ, List.set_cons_zero, List.set_cons_succ, Nat.zero_add, Nat.add_zero, Nat.mul_one, Nat.zero_mul, m2, m3, m4]
  refine plan_p rfl rfl (pr_idxA1 (i := 13) rfl rfl Try.underlying22 sz5 (by first | omega | (first | exact Nat.lt_trans (u64_mod_k _ 6 6 rfl (by omega)) (by omega) | (simp [strm_len] <;> omega)))) ?_
  try simp only [n0, n1, n2, n3, List.getD_cons_zero, List.getD_cons_succ, List.set_cons_zero, List.set_cons_succ, Nat.zero_add, Nat.add_zero, Nat.mul_one, Nat.zero_mul, m2, m3, m4]
  refine plan_q rfl rfl (qr_load1 rfl Try.underlying5 rfl ((hH.blk 0 rfl).cell (flowC_ctr (i := 13) (by omega)))) ?_
  try simp only [n0, n1, n2, n3, List.getD_cons_zero, List.getD_cons_succ, List.set_cons_zero, List.set_cons_succ, Nat.zero_add, Nat.add_zero, Nat.mul_one, Nat.zero_mul, m2, m3, m4]
  refine plan_p rfl rfl (pr_conv rfl (cnv_u8_u32 _ Try.underlying5 Try.underlying45)) ?_
  try simp only [n0, n1, n2, n3, List.getD_cons_zero, List.getD_cons_succ, List.set_cons_zero, List.set_cons_succ, Nat.zero_add, Nat.add_zero, Nat.mul_one, Nat.zero_mul, m2, m3, m4]
  refine plan_p rfl rfl (pr_bin rfl rfl (bin_shlc_u32 16 16 (by decide) rfl _)) ?_
  try simp only [n0, n1, n2, n3, List.getD_cons_zero, List.getD_cons_succ, List.set_cons_zero, List.set_cons_succ, Nat.zero_add, Nat.add_zero, Nat.mul_one, Nat.zero_mul, m2, m3, m4]
  refine plan_p rfl rfl (pr_bin rfl rfl (bin_add_u32 _ _)) ?_
  try simp only [n0, n1, n2, n3, List.getD_cons_zero, List.getD_cons_succ, List.set_cons_zero, List.set_cons_succ, Nat.zero_add, Nat.add_zero, Nat.mul_one, Nat.zero_mul, m2, m3, m4]
  refine plan_p rfl rfl (pr_fieldAddr 16 rfl Try.underlying40 rfl rfl sz22) ?_
  try simp only [n0, n1, n2, n3, List.getD_cons_zero, List.getD_cons_succ, List.set_cons_zero, List.set_cons_succ, Nat.zero_add, Nat.add_zero, Nat.mul_one, Nat.zero_mul, m2, m3, m4]
  refine plan_p rfl rfl (pr_idxA1 (i := 14) rfl rfl Try.underlying22 sz5 (by first | omega | (first | exact Nat.lt_trans (u64_mod_k _ 6 6 rfl (by omega)) (by omega) | (simp [strm_len] <;> omega)))) ?_
  try simp only [n0, n1, n2, n3, List.getD_cons_zero, List.getD_cons_succ, List.set_cons_zero, List.set_cons_succ, Nat.zero_add, Nat.add_zero, Nat.mul_one, Nat.zero_mul, m2, m3, m4]
  refine plan_q rfl rfl (qr_load1 rfl Try.underlying5 rfl ((hH.blk 0 rfl).cell (flowC_ctr (i := 14) (by omega)))) ?_
  try simp only [n0, n1, n2, n3, List.getD_cons_zero, List.getD_cons_succ, List.set_cons_zero, List.set_cons_succ, Nat.zero_add, Nat.add_zero, Nat.mul_one, Nat.zero_mul, m2, m3, m4]
  refine plan_p rfl rfl (pr_conv rfl (cnv_u8_u32 _ Try.underlying5 Try.underlying45)) ?_
  try simp only [n0, n1, n2, n3, List.getD_cons_zero, List.getD_cons_succ, List.set_cons_zero, List.set_cons_succ, Nat.zero_add, Nat.add_zero, Nat.mul_one, Nat.zero_mul, m2, m3, m4]
  refine plan_p rfl rfl (pr_bin rfl rfl (bin_shlc_u32 8 8 (by decide) rfl _)) ?_
  try simp only [n0, n1, n2, n3, List.getD_cons_zero, List.getD_cons_succ, List.set_cons_zero, List.set_cons_succ, Nat.zero_add, Nat.add_zero, Nat.mul_one, Nat.zero_mul, m2, m3, m4]
  refine plan_p rfl rfl (pr_bin rfl rfl (bin_add_u32 _ _)) ?_
  try simp only [n0, n1, n2, n3, List.getD_cons_zero, List.getD_cons_succ, List.set_cons_zero, List.set_cons_succ, Nat.zero_add, Nat.add_zero, Nat.mul_one, Nat.zero_mul, m2, m3, m4]
  refine plan_p rfl rfl (pr_fieldAddr 16 rfl Try.underlying40 rfl rfl sz22) ?_
  try simp only [n0, n1, n2, n3, List.getD_cons_zero, List.getD_cons_succ, List.set_cons_zero, List.set_cons_succ, Nat.zero_add, Nat.add_zero, Nat.mul_one, Nat.zero_mul, m2, m3, m4]
  refine plan_p rfl rfl (pr_idxA1 (i := 15) rfl rfl Try.underlying22 sz5 (by first | omega | (first | exact Nat.lt_trans (u64_mod_k _ 6 6 rfl (by omega)) (by omega) | (simp [strm_len] <;> omega)))) ?_
  try simp only [n0, n1, n2, n3, List.getD_cons_zero, List.getD_cons_succ, List.set_cons_zero, List.set_cons_succ, Nat.zero_add, Nat.add_zero, Nat.mul_one, Nat.zero_mul, m2, m3, m4]
  refine plan_q rfl rfl (qr_load1 rfl Try.underlying5 rfl ((hH.blk 0 rfl).cell (flowC_ctr (i := 15) (by omega)))) ?_
  try simp only [n0, n1, n2, n3, List.getD_cons_zero, List.getD_cons_succ, List.set_cons_zero, List.set_cons_succ, Nat.zero_add, Nat.add_zero, Nat.mul_one, Nat.zero_mul, m2, m3, m4]
  refine plan_p rfl rfl (pr_conv rfl (cnv_u8_u32 _ Try.underlying5 Try.underlying45)) ?_
  try simp only [n0, n1, n2, n3, List.getD_cons_zero, List.getD_cons_succ, List.set_cons_zero, List.set_cons_succ, Nat.zero_add, Nat.add_zero, Nat.mul_one, Nat.zero_mul, m2, m3, m4]
  refine plan_p rfl rfl (pr_bin rfl rfl (bin_add_u32 _ _)) ?_
  try simp only [n0, n1, n2, n3, List.getD_cons_zero, List.getD_cons_succ, List.set_cons_zero, List.set_cons_succ, Nat.zero_add, Nat.add_zero, Nat.mul_one, Nat.zero_mul, m2, m3, m4]
  refine plan_p rfl rfl pr_assign ?_
  try simp only [n0, n1, n2, n3, List.getD_cons_zero, List.getD_cons_succ, List.set_cons_zero, List.set_cons_succ, Nat.zero_add, Nat.add_zero, Nat.mul_one, Nat.zero_mul, m2, m3, m4]
  refine plan_nil hH ?_
  clear hH
  intro w33 hH
  refine hK32 _ _ ?_
  try clear hK32 K32
  refine wp_seq_k ?_
  intro K34 hK34
  refine wp_seq_k ?_
  intro K35 hK35
  refine wp_region_text [.p 0] rfl ?_
  refine plan_p rfl rfl (pr_aconst_n 0 rfl) ?_
  try simp only [n0, n1, n2, n3, List.getD_cons_zero, List.getD_cons_succ, List.set_cons_zero, List.set_cons_succ, Nat.zero_add, Nat.add_zero, Nat.mul_one, Nat.zero_mul, m2, m3, m4]
  refine plan_nil hH ?_
  clear hH
  intro w36 hH
  refine hK35 _ _ ?_
  try clear hK35 K35
  refine wp_block ?_
  obtain ⟨kc37, hkc38, hN⟩ := hH.name 0 rfl
  replace hH := hN; clear hN; simp only [List.set_cons_zero, List.set_cons_succ] at hH
  obtain ⟨kc39, hkc40, hN⟩ := hH.name 1 rfl
  replace hH := hN; clear hN; simp only [List.set_cons_zero, List.set_cons_succ] at hH
  obtain ⟨kc41, hkc42, hN⟩ := hH.name 2 rfl
  replace hH := hN; clear hN; simp only [List.set_cons_zero, List.set_cons_succ] at hH
  refine wp_loopT [9] [4, 10, 11, 12, 64, 65, 66, 67, 68, 69, 70, 71, 72, 73, 74, 75, 76, 77, 78, 79, 80, 81, 82, 83, 84, 85, 86, 87, 88, 89, 90, 91, 92, 93, 94, 95, 96, 97, 98, 99, 100, 101, 102, 103, 104, 105, 106, 107, 108, 109] (fun (n43 : Nat) (vs : List Value) (w' : World) => ∃ (i : Nat), vs = [I64 (i : Nat)] ∧ Hp [] w w' [(some b2, 40, kc37), (some b10, 65, kc39), (some b18, 5, kc41), (o24, 5, cs26)] ∧ n43 = 1 + k - i ∧ i ≤ 1 + k) (1 + k - 0) (by kernel_rfl) ?_ ?_
  ·
    simp only [getAll, List.map_cons, List.map_nil, List.getD_cons_zero, List.getD_cons_succ]
    refine ⟨0, rfl, ?_, rfl, ?_⟩
    ·
      exact hH
    · first | omega | (omega)
  clear hH
  intro n43 vs44 w45 hR46 d0
  obtain ⟨i, rfl, hH, hn47, hf48⟩ := hR46
  simp only [putAll, putD, List.set_cons_zero, List.set_cons_succ, Nat.zero_add, Nat.reduceAdd]
  subst hkc38 hkc40 hkc42
  refine wp_seq_k ?_
  intro K49 hK49
  refine wp_seq_k ?_
  intro K50 hK50
  refine wp_region_text [.p 0, .p 1, .p 2] rfl ?_
  refine plan_p rfl rfl pr_move ?_
  try simp only [n0, n1, n2, n3, List.getD_cons_zero, List.getD_cons_succ, List.set_cons_zero, List.set_cons_succ, Nat.zero_add, Nat.add_zero, Nat.mul_one, Nat.zero_mul, m2, m3, m4]
  refine plan_p rfl rfl pr_move ?_
  try simp only [n0, n1, n2, n3, List.getD_cons_zero, List.getD_cons_succ, List.set_cons_zero, List.set_cons_succ, Nat.zero_add, Nat.add_zero, Nat.mul_one, Nat.zero_mul, m2, m3, m4]
  refine plan_p rfl rfl (pr_bin rfl rfl (by first | exact bin_lss_n  | exact bin_lss_i)) ?_
  try simp only [n0, n1, n2, n3, List.getD_cons_zero, List.getD_cons_succ, List.set_cons_zero, List.set_cons_succ, Nat.zero_add, Nat.add_zero, Nat.mul_one, Nat.zero_mul, m2, m3, m4]
  refine plan_nil hH ?_
  clear hH
  intro w51 hH
  refine hK50 _ _ ?_
  try clear hK50 K50
  refine wp_cond_split rfl (fun hc52 => ?_) (fun hc52 => ?_)
  ·
    try simp only [decide_eq_true_eq, decide_eq_false_iff_not, beq_iff_eq, bne_iff_ne, beq_eq_false_iff_ne, ne_eq, Bool.not_eq_true', Bool.not_eq_false', bne_eq_false_iff_eq, Nat.not_lt, Nat.not_le, gt_iff_lt, ge_iff_le] at hc52
    refine wp_skip ?_
    refine hK49 _ _ ?_
    try clear hK49 K49
    refine wp_seq_k ?_
    intro K53 hK53
    refine wp_block ?_
    refine wp_seq_k ?_
    intro K54 hK54
    refine wp_region_text [.p 0, .p 1, .p 2, .p 3, .p 4] rfl ?_
    refine plan_p rfl rfl pr_move ?_
    try simp only [n0, n1, n2, n3, List.getD_cons_zero, List.getD_cons_succ, List.set_cons_zero, List.set_cons_succ, Nat.zero_add, Nat.add_zero, Nat.mul_one, Nat.zero_mul, m2, m3, m4]
    refine plan_p rfl rfl pr_move ?_
    try simp only [n0, n1, n2, n3, List.getD_cons_zero, List.getD_cons_succ, List.set_cons_zero, List.set_cons_succ, Nat.zero_add, Nat.add_zero, Nat.mul_one, Nat.zero_mul, m2, m3, m4]
    refine plan_p rfl rfl (pr_conv rfl (by first | exact cnv_n_u32 Try.underlying3 Try.underlying45 | exact cnv_i_u32 Try.underlying3 Try.underlying45)) ?_
    try simp only [n0, n1, n2, n3, List.getD_cons_zero, List.getD_cons_succ, List.set_cons_zero, List.set_cons_succ, Nat.zero_add, Nat.add_zero, Nat.mul_one, Nat.zero_mul, m2, m3, m4]
    refine plan_p rfl rfl (pr_bin rfl rfl (bin_add_u32 _ _)) ?_
    try simp only [n0, n1, n2, n3, List.getD_cons_zero, List.getD_cons_succ, List.set_cons_zero, List.set_cons_succ, Nat.zero_add, Nat.add_zero, Nat.mul_one, Nat.zero_mul, m2, m3, m4]
    refine plan_p rfl rfl pr_assign ?_
    try simp only [n0, n1, n2, n3, List.getD_cons_zero, List.getD_cons_succ, List.set_cons_zero, List.set_cons_succ, Nat.zero_add, Nat.add_zero, Nat.mul_one, Nat.zero_mul, m2, m3, m4]
    refine plan_nil hH ?_
    clear hH
    intro w55 hH
    refine hK54 _ _ ?_
    try clear hK54 K54
    refine wp_seq_k ?_
    intro K56 hK56
    refine wp_region_text [.p 0, .x 1, .p 2, .p 3, .e 4, .p 5, .p 6, .p 7, .p 8, .p 9, .p 10, .p 11, .p 12, .p 13, .p 14, .p 15, .x 16, .e 17, .x 18, .p 19, .p 20, .p 21, .p 22, .p 23] rfl ?_
    refine plan_p rfl rfl pr_move ?_
    try simp only [n0, n1, n2, n3, List.getD_cons_zero, List.getD_cons_succ, List.set_cons_zero, List.set_cons_succ, Nat.zero_add, Nat.add_zero, Nat.mul_one, Nat.zero_mul, m2, m3, m4]
    refine plan_buildSlice rfl rfl hH Try.underlying27 (by rfl) (bs0 ) ?_
    clear hH
    intro b57 w58 hH
    try simp only [n0, n1, n2, n3, List.getD_cons_zero, List.getD_cons_succ, List.set_cons_zero, List.set_cons_succ, Nat.zero_add, Nat.add_zero, Nat.mul_one, Nat.zero_mul, m2, m3, m4, m5, m6, m7, Value.cells, arr8_set, arr32_set, arr64_set] at hH ⊢
    refine plan_p rfl rfl (pr_fieldAddr 16 rfl Try.underlying40 rfl rfl sz22) ?_
    try simp only [n0, n1, n2, n3, List.getD_cons_zero, List.getD_cons_succ, List.set_cons_zero, List.set_cons_succ, Nat.zero_add, Nat.add_zero, Nat.mul_one, Nat.zero_mul, m2, m3, m4]
    refine plan_p rfl rfl (pr_slice_arr_h (h := 12) rfl rfl Try.underlying22 sz5 (by first | omega | (first | exact Nat.lt_trans (u64_mod_k _ 6 6 rfl (by omega)) (by omega) | (simp [strm_len] <;> omega)))) ?_
    try simp only [n0, n1, n2, n3, List.getD_cons_zero, List.getD_cons_succ, List.set_cons_zero, List.set_cons_succ, Nat.zero_add, Nat.add_zero, Nat.mul_one, Nat.zero_mul, m2, m3, m4]
    try simp only [Nat.mul_one, Nat.zero_add, Nat.add_sub_cancel_left]
    refine plan_append 4 rfl rfl hH rfl (OwnC.of_bytes rfl) (fun w' hH => ((Sl.head (flow_ctr (hH.blk 0 rfl)) (by first | omega | (first | exact Nat.lt_trans (u64_mod_k _ 6 6 rfl (by omega)) (by omega) | (simp [strm_len] <;> omega))))).src) rfl rfl Try.underlying27 Try.underlying27 (.inl ⟨_, rfl⟩) sz5 bz5 ze5 rfl (by first | omega | (simp <;> omega)) (by first | omega | (simp <;> omega)) ?_
    clear hH
    intro o59 cap60 cs61 w62 hO63 hH
    try simp only [n0, n1, n2, n3, List.getD_cons_zero, List.getD_cons_succ, List.set_cons_zero, List.set_cons_succ, Nat.zero_add, Nat.add_zero, Nat.mul_one, Nat.zero_mul, m2, m3, m4] at hH ⊢
    try simp only [n0, n1, n2, n3, List.getD_cons_zero, List.getD_cons_succ, List.set_cons_zero, List.set_cons_succ, Nat.zero_add, Nat.add_zero, Nat.mul_one, Nat.zero_mul, m2, m3, m4, m5, m6, m7, Value.cells, arr8_set, arr32_set, arr64_set] at hH ⊢
    try rw [← List.map_append] at hO63
    try simp only [Nat.zero_add, List.nil_append, List.length_nil] at hO63 ⊢
    refine plan_p rfl rfl pr_move ?_
    try simp only [n0, n1, n2, n3, List.getD_cons_zero, List.getD_cons_succ, List.set_cons_zero, List.set_cons_succ, Nat.zero_add, Nat.add_zero, Nat.mul_one, Nat.zero_mul, m2, m3, m4]
    refine plan_p rfl rfl (pr_bin rfl rfl (bin_shrc_u32 24 24 (by decide) rfl _)) ?_
    try simp only [n0, n1, n2, n3, List.getD_cons_zero, List.getD_cons_succ, List.set_cons_zero, List.set_cons_succ, Nat.zero_add, Nat.add_zero, Nat.mul_one, Nat.zero_mul, m2, m3, m4]
    refine plan_p rfl rfl (pr_conv rfl (cnv_u32_u8 _ Try.underlying45 Try.underlying5)) ?_
    try simp only [n0, n1, n2, n3, List.getD_cons_zero, List.getD_cons_succ, List.set_cons_zero, List.set_cons_succ, Nat.zero_add, Nat.add_zero, Nat.mul_one, Nat.zero_mul, m2, m3, m4]
    refine plan_p rfl rfl pr_move ?_
    try simp only [n0, n1, n2, n3, List.getD_cons_zero, List.getD_cons_succ, List.set_cons_zero, List.set_cons_succ, Nat.zero_add, Nat.add_zero, Nat.mul_one, Nat.zero_mul, m2, m3, m4]
    refine plan_p rfl rfl (pr_bin rfl rfl (bin_shrc_u32 16 16 (by decide) rfl _)) ?_
    try simp only [n0, n1, n2, n3, List.getD_cons_zero, List.getD_cons_succ, List.set_cons_zero, List.set_cons_succ, Nat.zero_add, Nat.add_zero, Nat.mul_one, Nat.zero_mul, m2, m3, m4]
    refine plan_p rfl rfl (pr_conv rfl (cnv_u32_u8 _ Try.underlying45 Try.underlying5)) ?_
    try simp only [n0, n1, n2, n3, List.getD_cons_zero, List.getD_cons_succ, List.set_cons_zero, List.set_cons_succ, Nat.zero_add, Nat.add_zero, Nat.mul_one, Nat.zero_mul, m2, m3, m4]
    refine plan_p rfl rfl pr_move ?_
    try simp only [n0, n1, n2, n3, List.getD_cons_zero, List.getD_cons_succ, List.set_cons_zero, List.set_cons_succ, Nat.zero_add, Nat.add_zero, Nat.mul_one, Nat.zero_mul, m2, m3, m4]
    refine plan_p rfl rfl (pr_bin rfl rfl (bin_shrc_u32 8 8 (by decide) rfl _)) ?_
    try simp only [n0, n1, n2, n3, List.getD_cons_zero, List.getD_cons_succ, List.set_cons_zero, List.set_cons_succ, Nat.zero_add, Nat.add_zero, Nat.mul_one, Nat.zero_mul, m2, m3, m4]
    refine plan_p rfl rfl (pr_conv rfl (cnv_u32_u8 _ Try.underlying45 Try.underlying5)) ?_
    try simp only [n0, n1, n2, n3, List.getD_cons_zero, List.getD_cons_succ, List.set_cons_zero, List.set_cons_succ, Nat.zero_add, Nat.add_zero, Nat.mul_one, Nat.zero_mul, m2, m3, m4]
    refine plan_p rfl rfl pr_move ?_
    try simp only [n0, n1, n2, n3, List.getD_cons_zero, List.getD_cons_succ, List.set_cons_zero, List.set_cons_succ, Nat.zero_add, Nat.add_zero, Nat.mul_one, Nat.zero_mul, m2, m3, m4]
    refine plan_p rfl rfl (pr_conv rfl (cnv_u32_u8 _ Try.underlying45 Try.underlying5)) ?_
    try simp only [n0, n1, n2, n3, List.getD_cons_zero, List.getD_cons_succ, List.set_cons_zero, List.set_cons_succ, Nat.zero_add, Nat.add_zero, Nat.mul_one, Nat.zero_mul, m2, m3, m4]
    refine plan_buildSlice rfl rfl hH Try.underlying27 (by rfl) (bs4 _ _ _ _) ?_
    clear hH
    intro b64 w65 hH
    try simp only [n0, n1, n2, n3, List.getD_cons_zero, List.getD_cons_succ, List.set_cons_zero, List.set_cons_succ, Nat.zero_add, Nat.add_zero, Nat.mul_one, Nat.zero_mul, m2, m3, m4, m5, m6, m7, Value.cells, arr8_set, arr32_set, arr64_set] at hH ⊢
    refine plan_append 4 rfl rfl hH rfl hO63 (fun w' hH => ((OwnC.sl hH 5 rfl (OwnC.of_bytes rfl))).src) rfl rfl Try.underlying27 Try.underlying27 (.inl ⟨_, rfl⟩) sz5 bz5 ze5 rfl (by first | omega | (simp <;> omega)) (by first | omega | (simp <;> omega)) ?_
    clear hH
    intro o66 cap67 cs68 w69 hO70 hH
    try simp only [n0, n1, n2, n3, List.getD_cons_zero, List.getD_cons_succ, List.set_cons_zero, List.set_cons_succ, Nat.zero_add, Nat.add_zero, Nat.mul_one, Nat.zero_mul, m2, m3, m4] at hH ⊢
    try simp only [n0, n1, n2, n3, List.getD_cons_zero, List.getD_cons_succ, List.set_cons_zero, List.set_cons_succ, Nat.zero_add, Nat.add_zero, Nat.mul_one, Nat.zero_mul, m2, m3, m4, m5, m6, m7, Value.cells, arr8_set, arr32_set, arr64_set] at hH ⊢
    try rw [← List.map_append] at hO70
    try simp only [Nat.zero_add, List.nil_append, List.length_nil] at hO70 ⊢
    refine plan_callx rfl rfl hH cf17 (fun w' hH => block_calls _ _ _ _ w' (hH.blk 1 rfl) (OwnC.sl hH 4 rfl hO70) (by simp)) rfl (fun _ _ _ h => h.choose_spec.2.1) ?_
    clear hH
    intro w71 v72 w73 hH hp74
    obtain ⟨b75, rfl, hg, hfr, hbk⟩ := hp74
    replace hH := hH.callnew hg hbk hfr
    clear hg hfr hbk
    try simp only [n0, n1, n2, n3, List.getD_cons_zero, List.getD_cons_succ, List.set_cons_zero, List.set_cons_succ, Nat.zero_add, Nat.add_zero, Nat.mul_one, Nat.zero_mul, m2, m3, m4, m5, m6, m7, Value.cells, arr8_set, arr32_set, arr64_set] at hH ⊢
    try simp only [n0, n1, n2, n3, List.getD_cons_zero, List.getD_cons_succ, List.set_cons_zero, List.set_cons_succ, Nat.zero_add, Nat.add_zero, Nat.mul_one, Nat.zero_mul, m2, m3, m4]
    refine plan_p rfl rfl pr_move ?_
    try simp only [n0, n1, n2, n3, List.getD_cons_zero, List.getD_cons_succ, List.set_cons_zero, List.set_cons_succ, Nat.zero_add, Nat.add_zero, Nat.mul_one, Nat.zero_mul, m2, m3, m4]
    refine plan_p rfl rfl (pr_extract rfl rfl) ?_
    try simp only [n0, n1, n2, n3, List.getD_cons_zero, List.getD_cons_succ, List.set_cons_zero, List.set_cons_succ, Nat.zero_add, Nat.add_zero, Nat.mul_one, Nat.zero_mul, m2, m3, m4]
    refine plan_p rfl rfl (pr_extract rfl rfl) ?_
    try simp only [n0, n1, n2, n3, List.getD_cons_zero, List.getD_cons_succ, List.set_cons_zero, List.set_cons_succ, Nat.zero_add, Nat.add_zero, Nat.mul_one, Nat.zero_mul, m2, m3, m4]
    refine plan_p rfl rfl pr_assign ?_
    try simp only [n0, n1, n2, n3, List.getD_cons_zero, List.getD_cons_succ, List.set_cons_zero, List.set_cons_succ, Nat.zero_add, Nat.add_zero, Nat.mul_one, Nat.zero_mul, m2, m3, m4]
    refine plan_p rfl rfl pr_assign ?_
    try simp only [n0, n1, n2, n3, List.getD_cons_zero, List.getD_cons_succ, List.set_cons_zero, List.set_cons_succ, Nat.zero_add, Nat.add_zero, Nat.mul_one, Nat.zero_mul, m2, m3, m4]
    refine plan_nil hH ?_
    clear hH
    intro w76 hH
    refine hK56 _ _ ?_
    try clear hK56 K56
    refine wp_seq_k ?_
    intro K77 hK77
    refine wp_region_plan [.p 0, .p 1, .p 2, .p 3, .p 5, .p 6, .p 7, .p 8, .p 9, .p 10, .p 11, .q 4, .q 12, .p 13, .p 14] (by kernel_rfl) (by kernel_rfl) (by kernel_rfl) (by kernel_rfl) (fun _ _ _ _ _ h => by first | exact h | exact BP.panic _ _ _ _ _ h) ?_
    refine plan_p rfl rfl pr_move ?_
    try simp only [n0, n1, n2, n3, List.getD_cons_zero, List.getD_cons_succ, List.set_cons_zero, List.set_cons_succ, Nat.zero_add, Nat.add_zero, Nat.mul_one, Nat.zero_mul, m2, m3, m4]
    refine plan_p rfl rfl (pr_bin rfl rfl (by first | exact bin_neq_n (n := 0)  | exact bin_neq_i)) ?_
    try simp only [n0, n1, n2, n3, List.getD_cons_zero, List.getD_cons_succ, List.set_cons_zero, List.set_cons_succ, Nat.zero_add, Nat.add_zero, Nat.mul_one, Nat.zero_mul, m2, m3, m4]
    refine plan_p (v := BV false) rfl rfl (pr_move_v rfl) ?_
    try simp only [n0, n1, n2, n3, List.getD_cons_zero, List.getD_cons_succ, List.set_cons_zero, List.set_cons_succ, Nat.zero_add, Nat.add_zero, Nat.mul_one, Nat.zero_mul, m2, m3, m4]
    refine plan_p rfl rfl pr_move ?_
    try simp only [n0, n1, n2, n3, List.getD_cons_zero, List.getD_cons_succ, List.set_cons_zero, List.set_cons_succ, Nat.zero_add, Nat.add_zero, Nat.mul_one, Nat.zero_mul, m2, m3, m4]
    refine plan_p rfl rfl pr_move ?_
    try simp only [n0, n1, n2, n3, List.getD_cons_zero, List.getD_cons_succ, List.set_cons_zero, List.set_cons_succ, Nat.zero_add, Nat.add_zero, Nat.mul_one, Nat.zero_mul, m2, m3, m4]
    refine plan_p rfl rfl pr_move ?_
    try simp only [n0, n1, n2, n3, List.getD_cons_zero, List.getD_cons_succ, List.set_cons_zero, List.set_cons_succ, Nat.zero_add, Nat.add_zero, Nat.mul_one, Nat.zero_mul, m2, m3, m4]
    refine plan_p rfl rfl (pr_bin rfl rfl (by first | exact bin_mul_n (m := 16) (by first | omega | (first | exact Nat.lt_trans (u64_mod_k _ 6 6 rfl (by omega)) (by omega) | (simp [strm_len] <;> omega))) | exact bin_mul_i (by first | omega | (first | exact Nat.lt_trans (u64_mod_k _ 6 6 rfl (by omega)) (by omega) | (simp [strm_len] <;> omega))) (by first | omega | (first | exact Nat.lt_trans (u64_mod_k _ 6 6 rfl (by omega)) (by omega) | (simp [strm_len] <;> omega))))) ?_
    try simp only [n0, n1, n2, n3, List.getD_cons_zero, List.getD_cons_succ, List.set_cons_zero, List.set_cons_succ, Nat.zero_add, Nat.add_zero, Nat.mul_one, Nat.zero_mul, m2, m3, m4]
    refine plan_p rfl rfl pr_move ?_
    try simp only [n0, n1, n2, n3, List.getD_cons_zero, List.getD_cons_succ, List.set_cons_zero, List.set_cons_succ, Nat.zero_add, Nat.add_zero, Nat.mul_one, Nat.zero_mul, m2, m3, m4]
    refine plan_p rfl rfl (pr_bin rfl rfl (by first | exact bin_mul_n (m := 16) (by first | omega | (first | exact Nat.lt_trans (u64_mod_k _ 6 6 rfl (by omega)) (by omega) | (simp [strm_len] <;> omega))) | exact bin_mul_i (by first | omega | (first | exact Nat.lt_trans (u64_mod_k _ 6 6 rfl (by omega)) (by omega) | (simp [strm_len] <;> omega))) (by first | omega | (first | exact Nat.lt_trans (u64_mod_k _ 6 6 rfl (by omega)) (by omega) | (simp [strm_len] <;> omega))))) ?_
    try simp only [n0, n1, n2, n3, List.getD_cons_zero, List.getD_cons_succ, List.set_cons_zero, List.set_cons_succ, Nat.zero_add, Nat.add_zero, Nat.mul_one, Nat.zero_mul, m2, m3, m4]
    refine plan_p rfl rfl (pr_bin rfl rfl (by first | exact bin_add_n (n := 16) (by first | omega | (first | exact Nat.lt_trans (u64_mod_k _ 6 6 rfl (by omega)) (by omega) | (simp [strm_len] <;> omega))) | exact bin_add_i (by first | omega | (first | exact Nat.lt_trans (u64_mod_k _ 6 6 rfl (by omega)) (by omega) | (simp [strm_len] <;> omega))) (by first | omega | (first | exact Nat.lt_trans (u64_mod_k _ 6 6 rfl (by omega)) (by omega) | (simp [strm_len] <;> omega))))) ?_
    try simp only [n0, n1, n2, n3, List.getD_cons_zero, List.getD_cons_succ, List.set_cons_zero, List.set_cons_succ, Nat.zero_add, Nat.add_zero, Nat.mul_one, Nat.zero_mul, m2, m3, m4]
    refine plan_p rfl rfl (pr_slice_Sl_lh (OwnC.sl hH 3 rfl hO27) rfl rfl rfl Try.underlying27 sz5 (by first | omega | (first | exact Nat.lt_trans (u64_mod_k _ 6 6 rfl (by omega)) (by omega) | (simp [strm_len] <;> omega))) (by first | omega | (first | exact Nat.lt_trans (u64_mod_k _ 6 6 rfl (by omega)) (by omega) | (simp [strm_len] <;> omega)))) ?_
    try simp only [n0, n1, n2, n3, List.getD_cons_zero, List.getD_cons_succ, List.set_cons_zero, List.set_cons_succ, Nat.zero_add, Nat.add_zero, Nat.mul_one, Nat.zero_mul, m2, m3, m4]
    refine plan_q rfl rfl (qr_b2s (Sl.of_arr8 (hH.blk 6 rfl) (by first | omega | (first | exact Nat.lt_trans (u64_mod_k _ 6 6 rfl (by omega)) (by omega) | (simp [strm_len] <;> omega))) (by first | omega | (first | exact Nat.lt_trans (u64_mod_k _ 6 6 rfl (by omega)) (by omega) | (simp [strm_len] <;> omega)))) rfl Try.underlying27 Try.underlying5 Try.underlying9) ?_
    try simp only [n0, n1, n2, n3, List.getD_cons_zero, List.getD_cons_succ, List.set_cons_zero, List.set_cons_succ, Nat.zero_add, Nat.add_zero, Nat.mul_one, Nat.zero_mul, m2, m3, m4]
    refine plan_q rfl rfl (qr_b2s (Sl.cut (OwnC.sl hH 3 rfl hO27) (by first | omega | (first | exact Nat.lt_trans (u64_mod_k _ 6 6 rfl (by omega)) (by omega) | (simp [strm_len] <;> omega))) (by first | omega | (first | exact Nat.lt_trans (u64_mod_k _ 6 6 rfl (by omega)) (by omega) | (simp [strm_len] <;> omega)))) rfl Try.underlying27 Try.underlying5 Try.underlying9) ?_
    try simp only [n0, n1, n2, n3, List.getD_cons_zero, List.getD_cons_succ, List.set_cons_zero, List.set_cons_succ, Nat.zero_add, Nat.add_zero, Nat.mul_one, Nat.zero_mul, m2, m3, m4]
    refine plan_p rfl rfl (pr_bin rfl rfl bin_neq_s) ?_
    try simp only [n0, n1, n2, n3, List.getD_cons_zero, List.getD_cons_succ, List.set_cons_zero, List.set_cons_succ, Nat.zero_add, Nat.add_zero, Nat.mul_one, Nat.zero_mul, m2, m3, m4]
    refine plan_p rfl rfl (pr_pick_f rfl) ?_
    try simp only [n0, n1, n2, n3, List.getD_cons_zero, List.getD_cons_succ, List.set_cons_zero, List.set_cons_succ, Nat.zero_add, Nat.add_zero, Nat.mul_one, Nat.zero_mul, m2, m3, m4]
    refine plan_nil hH ?_
    clear hH
    intro w78 hH
    refine hK77 _ _ ?_
    try clear hK77 K77
    refine wp_cond_false (by
      refine (?_ : BV (!((_ : List UInt8) == _)) = BV false)
      refine congrArg BV ?_
      rw [Bool.not_eq_false', beq_iff_eq]
      refine counts_eq (cf := fun i => ((List.range 16).map fun i => g i).getD i 0) (n := 1 + k) (x := (g 12).toUInt32 <<< 24 + (g 13).toUInt32 <<< 16 + (g 14).toUInt32 <<< 8 + (g 15).toUInt32 + UInt32.ofNat i) hc52 ?_ ?_ ?_ ?_
      · simp
      · exact fun j => zeros_getD _ j
      · rw [be32_sum]; rfl
      · exact ctr_list _ _ _ (fun j hj => take_getD _ hj) (by simp)) ?_
    refine wp_skip ?_
    refine hK53 _ _ ?_
    try clear hK53 K53
    refine wp_region_text [.p 0, .p 1, .p 2] rfl ?_
    refine plan_p rfl rfl pr_move ?_
    try simp only [n0, n1, n2, n3, List.getD_cons_zero, List.getD_cons_succ, List.set_cons_zero, List.set_cons_succ, Nat.zero_add, Nat.add_zero, Nat.mul_one, Nat.zero_mul, m2, m3, m4]
    refine plan_p rfl rfl (pr_bin rfl rfl (by first | exact bin_add_n (n := 1) (by first | omega | (first | exact Nat.lt_trans (u64_mod_k _ 6 6 rfl (by omega)) (by omega) | (simp [strm_len] <;> omega))) | exact bin_add_i (by first | omega | (first | exact Nat.lt_trans (u64_mod_k _ 6 6 rfl (by omega)) (by omega) | (simp [strm_len] <;> omega))) (by first | omega | (first | exact Nat.lt_trans (u64_mod_k _ 6 6 rfl (by omega)) (by omega) | (simp [strm_len] <;> omega))))) ?_
    try simp only [n0, n1, n2, n3, List.getD_cons_zero, List.getD_cons_succ, List.set_cons_zero, List.set_cons_succ, Nat.zero_add, Nat.add_zero, Nat.mul_one, Nat.zero_mul, m2, m3, m4]
    refine plan_p rfl rfl pr_assign ?_
    try simp only [n0, n1, n2, n3, List.getD_cons_zero, List.getD_cons_succ, List.set_cons_zero, List.set_cons_succ, Nat.zero_add, Nat.add_zero, Nat.mul_one, Nat.zero_mul, m2, m3, m4]
    refine plan_nil hH ?_
    clear hH
    intro w79 hH
    try simp only [Exit.then, Exit.inBlock, ↓reduceIte, Nat.reduceEqDiff]
    refine ⟨1 + k - (i + 1), ?_, _, rfl, by kernel_rfl, ?_⟩
    · first | omega | (omega)
    simp only [getAll, List.map_cons, List.map_nil, List.getD_cons_zero, List.getD_cons_succ]
    refine ⟨i + 1, rfl, ?_, rfl, ?_⟩
    ·
      exact hH.take 4
    · first | omega | (omega)
  ·
    try simp only [decide_eq_true_eq, decide_eq_false_iff_not, beq_iff_eq, bne_iff_ne, beq_eq_false_iff_ne, ne_eq, Bool.not_eq_true', Bool.not_eq_false', bne_eq_false_iff_eq, Nat.not_lt, Nat.not_le, gt_iff_lt, ge_iff_le] at hc52
    refine wp_exit ?_
    try simp only [Exit.then, Exit.inBlock, ↓reduceIte, Nat.reduceEqDiff]
    refine hK34 _ _ ?_
    try clear hK34 K34
    refine wp_seq_k ?_
    intro K80 hK80
    refine wp_region_text [.p 0] rfl ?_
    refine plan_p rfl rfl pr_assign ?_
    try simp only [n0, n1, n2, n3, List.getD_cons_zero, List.getD_cons_succ, List.set_cons_zero, List.set_cons_succ, Nat.zero_add, Nat.add_zero, Nat.mul_one, Nat.zero_mul, m2, m3, m4]
    refine plan_nil hH ?_
    clear hH
    intro w81 hH
    refine hK80 _ _ ?_
    try clear hK80 K80
    refine wp_ret ?_
    try simp only [Exit.then, Exit.inBlock, ↓reduceIte, Nat.reduceEqDiff]
    refine BP.ret1 rfl rfl ?_
    exact ⟨rfl, hH.chg⟩

end Go.Proofs.Ytjbohfonjalfnaa
