/- The walk of the law AesParts. No conditions. -/
import Derived.Test.YtjbohfonjalfnaaAesA
set_option linter.unusedSimpArgs false
set_option linter.unusedVariables false
set_option maxRecDepth 100000
set_option maxHeartbeats 4000000
namespace Go.Proofs.Ytjbohfonjalfnaa
open Go

theorem strm_len (K c : Nat → UInt8) (a : Nat) (l : List UInt8) (n : Nat) : (strm K c a l n).length = n := by simp [strm]
theorem strm_at (K c : Nat → UInt8) (a : Nat) (l : List UInt8) {n i : Nat} (h : i < n) : (strm K c a l n).getD i 0 = l.getD i 0 ^^^ ksF K c (a + i) := by
  simp [strm, List.getD, h]
theorem strm_twice (K c : Nat → UInt8) (a : Nat) (l : List UInt8) : strm K c a (strm K c a l l.length) l.length = l := by
  apply List.ext_getElem (by simp [strm])
  intro i h1 h2
  have := strm_at K c a l h2
  simp only [strm, List.getElem_map, List.getElem_range] at this ⊢
  rw [this, UInt8.xor_assoc, UInt8.xor_self, UInt8.xor_zero]
  simp [List.getD, h2]
theorem strm_parts (K c : Nat → UInt8) (a k : Nat) (l : List UInt8) (h : k ≤ l.length) : strm K c a (l.take k) (l.take k).length ++ strm K c (a + k) (l.drop k) (l.drop k).length = strm K c a l l.length := by
  apply List.ext_getElem (by simp [strm]; omega)
  intro i h1 h2
  have hi : i < l.length := by simpa [strm] using h2
  rw [List.getElem_append]
  simp only [strm, List.length_map, List.length_range, List.length_take, List.getElem_map, List.getElem_range]
  split
  · rename_i h3
    simp [List.getD, show i < k by omega]
  · rename_i h3
    rw [show a + k + (i - min k l.length) = a + i by omega]
    simp [List.getD, List.getElem?_drop, show k + (i - min k l.length) = i by omega]

theorem u64_mod_k (x m : UInt64) (k : Nat) (hm : m.toNat = k) (h : 0 < k) : (x % m).toNat < k := by
  rw [UInt64.toNat_mod, hm]; exact Nat.mod_lt _ h

theorem parts_calls (f g : Nat → UInt8) (a : Int) (sv : Value) (l : List UInt8) (cut : Int) (w : World) (hb : Sl w sv l) :
    Ret Try.prog 7 #[.agg (flowC f g a sv), I64 cut] w fun v w' => v = BV true ∧ Chg [] w w' := by
  refine Ret.enter Try.func7 rfl ?_
  simp only [Try.ntmps7, List.size_toArray, List.length_cons, List.length_nil, Nat.reduceAdd, Nat.reduceSub, frame_enter, List.replicate_succ, List.replicate_zero, List.nil_append, List.cons_append]
  have hH := Hp.start [] w
  refine wp_seq_k ?_
  intro K1 hK1
  refine wp_region_text [.x 0, .p 1] rfl ?_
  refine plan_box rfl rfl hH rfl ?_
  clear hH
  intro b2 w3 hH
  try simp only [n0, n1, n2, n3, List.getD_cons_zero, List.getD_cons_succ, List.set_cons_zero, List.set_cons_succ, Nat.zero_add, Nat.add_zero, Nat.mul_one, Nat.zero_mul, m2, m3, m4, m5, m6, m7, Value.cells, arr8_set, arr32_set, arr64_set] at hH ⊢
  refine plan_p rfl rfl pr_assign ?_
  try simp only [n0, n1, n2, n3, List.getD_cons_zero, List.getD_cons_succ, List.set_cons_zero, List.set_cons_succ, Nat.zero_add, Nat.add_zero, Nat.mul_one, Nat.zero_mul, m2, m3, m4]
  refine plan_nil hH ?_
  clear hH
  intro w4 hH
  refine hK1 _ _ ?_
  try clear hK1 K1
  refine wp_seq_k ?_
  intro K5 hK5
  refine wp_region_text [.x 0, .p 1, .q 2, .p 3, .q 4, .p 5, .p 6, .p 7, .e 8, .p 9] rfl ?_
  refine plan_buildSlice rfl rfl hH Try.underlying27 (by rfl) (bs0 ) ?_
  clear hH
  intro b6 w7 hH
  try simp only [n0, n1, n2, n3, List.getD_cons_zero, List.getD_cons_succ, List.set_cons_zero, List.set_cons_succ, Nat.zero_add, Nat.add_zero, Nat.mul_one, Nat.zero_mul, m2, m3, m4, m5, m6, m7, Value.cells, arr8_set, arr32_set, arr64_set] at hH ⊢
  refine plan_p rfl rfl (pr_fieldAddr 33 rfl Try.underlying40 rfl rfl sz27) ?_
  try simp only [n0, n1, n2, n3, List.getD_cons_zero, List.getD_cons_succ, List.set_cons_zero, List.set_cons_succ, Nat.zero_add, Nat.add_zero, Nat.mul_one, Nat.zero_mul, m2, m3, m4]
  refine plan_q rfl rfl (qr_load1 rfl Try.underlying27 rfl ((hH.blk 0 rfl).cell flowC_bytes)) ?_
  try simp only [n0, n1, n2, n3, List.getD_cons_zero, List.getD_cons_succ, List.set_cons_zero, List.set_cons_succ, Nat.zero_add, Nat.add_zero, Nat.mul_one, Nat.zero_mul, m2, m3, m4]
  refine plan_p rfl rfl (pr_fieldAddr 33 rfl Try.underlying40 rfl rfl sz27) ?_
  try simp only [n0, n1, n2, n3, List.getD_cons_zero, List.getD_cons_succ, List.set_cons_zero, List.set_cons_succ, Nat.zero_add, Nat.add_zero, Nat.mul_one, Nat.zero_mul, m2, m3, m4]
  refine plan_q rfl rfl (qr_load1 rfl Try.underlying27 rfl ((hH.blk 0 rfl).cell flowC_bytes)) ?_
  try simp only [n0, n1, n2, n3, List.getD_cons_zero, List.getD_cons_succ, List.set_cons_zero, List.set_cons_succ, Nat.zero_add, Nat.add_zero, Nat.mul_one, Nat.zero_mul, m2, m3, m4]
  refine plan_p rfl rfl (pr_len_Sl (hb.chg hH.chg) rfl Try.underlying27) ?_
  try simp only [n0, n1, n2, n3, List.getD_cons_zero, List.getD_cons_succ, List.set_cons_zero, List.set_cons_succ, Nat.zero_add, Nat.add_zero, Nat.mul_one, Nat.zero_mul, m2, m3, m4]
  refine plan_p rfl rfl (by first | exact pr_min_n (n := 400) rfl rfl | exact pr_min rfl rfl) ?_
  try simp only [n0, n1, n2, n3, List.getD_cons_zero, List.getD_cons_succ, List.set_cons_zero, List.set_cons_succ, Nat.zero_add, Nat.add_zero, Nat.mul_one, Nat.zero_mul, m2, m3, m4]
  refine plan_p rfl rfl (pr_slice_Sl_h (hb.chg hH.chg) rfl rfl Try.underlying27 sz5 (by first | omega | (first | exact Nat.lt_trans (u64_mod_k _ 1000 1000 rfl (by omega)) (by omega) | exact Nat.lt_trans (u64_mod_k _ _ _ (ofNat_toNat64 (bl.length + 1) (by omega)) (by omega)) (by omega) | (simp [ByteArray.size, strm_len]; omega)))) ?_
  try simp only [n0, n1, n2, n3, List.getD_cons_zero, List.getD_cons_succ, List.set_cons_zero, List.set_cons_succ, Nat.zero_add, Nat.add_zero, Nat.mul_one, Nat.zero_mul, m2, m3, m4]
  refine plan_append 1 rfl rfl hH rfl (OwnC.of_bytes rfl) (fun w' hH => ((Sl.cuth (hb.chg hH.chg) (by first | omega | (first | exact Nat.lt_trans (u64_mod_k _ 1000 1000 rfl (by omega)) (by omega) | exact Nat.lt_trans (u64_mod_k _ _ _ (ofNat_toNat64 (bl.length + 1) (by omega)) (by omega)) (by omega) | (simp [ByteArray.size, strm_len]; omega))))).src) rfl rfl Try.underlying27 Try.underlying27 (.inl ⟨_, rfl⟩) sz5 bz5 ze5 rfl (by first | omega | (simp <;> omega)) (by first | omega | (simp <;> omega)) ?_
  clear hH
  intro o8 cap9 cs10 w11 hO12 hH
  try simp only [n0, n1, n2, n3, List.getD_cons_zero, List.getD_cons_succ, List.set_cons_zero, List.set_cons_succ, Nat.zero_add, Nat.add_zero, Nat.mul_one, Nat.zero_mul, m2, m3, m4] at hH ⊢
  try simp only [n0, n1, n2, n3, List.getD_cons_zero, List.getD_cons_succ, List.set_cons_zero, List.set_cons_succ, Nat.zero_add, Nat.add_zero, Nat.mul_one, Nat.zero_mul, m2, m3, m4, m5, m6, m7, Value.cells, arr8_set, arr32_set, arr64_set] at hH ⊢
  try rw [← List.map_append] at hO12
  try simp only [Nat.zero_add, List.nil_append, List.length_nil] at hO12 ⊢
  refine plan_p rfl rfl pr_assign ?_
  try simp only [n0, n1, n2, n3, List.getD_cons_zero, List.getD_cons_succ, List.set_cons_zero, List.set_cons_succ, Nat.zero_add, Nat.add_zero, Nat.mul_one, Nat.zero_mul, m2, m3, m4]
  refine plan_nil hH ?_
  clear hH
  intro w13 hH
  have hbl : (List.take (min l.length 400) l).length ≤ 400 := by simp; omega
  generalize List.take (min l.length 400) l = bl at *
  refine hK5 _ _ ?_
  try clear hK5 K5
  refine wp_seq_k ?_
  intro K14 hK14
  refine wp_region_text [.p 0, .q 1, .p 2] rfl ?_
  refine plan_p rfl rfl pr_move ?_
  try simp only [n0, n1, n2, n3, List.getD_cons_zero, List.getD_cons_succ, List.set_cons_zero, List.set_cons_succ, Nat.zero_add, Nat.add_zero, Nat.mul_one, Nat.zero_mul, m2, m3, m4]
  refine plan_q rfl rfl (qr_b2s (OwnC.sl hH 1 rfl hO12) rfl Try.underlying27 Try.underlying5 Try.underlying9) ?_
  try simp only [n0, n1, n2, n3, List.getD_cons_zero, List.getD_cons_succ, List.set_cons_zero, List.set_cons_succ, Nat.zero_add, Nat.add_zero, Nat.mul_one, Nat.zero_mul, m2, m3, m4]
  refine plan_p rfl rfl pr_assign ?_
  try simp only [n0, n1, n2, n3, List.getD_cons_zero, List.getD_cons_succ, List.set_cons_zero, List.set_cons_succ, Nat.zero_add, Nat.add_zero, Nat.mul_one, Nat.zero_mul, m2, m3, m4]
  refine plan_nil hH ?_
  clear hH
  intro w15 hH
  refine hK14 _ _ ?_
  try clear hK14 K14
  refine wp_seq_k ?_
  intro K16 hK16
  refine wp_region_text [.p 0, .p 1, .x 2, .p 3, .p 4, .p 5, .p 6, .p 7] rfl ?_
  refine plan_p rfl rfl (pr_fieldAddr 0 rfl Try.underlying40 rfl rfl sz22) ?_
  try simp only [n0, n1, n2, n3, List.getD_cons_zero, List.getD_cons_succ, List.set_cons_zero, List.set_cons_succ, Nat.zero_add, Nat.add_zero, Nat.mul_one, Nat.zero_mul, m2, m3, m4]
  refine plan_p rfl rfl (pr_slice_arr_all rfl Try.underlying22 sz5) ?_
  try simp only [n0, n1, n2, n3, List.getD_cons_zero, List.getD_cons_succ, List.set_cons_zero, List.set_cons_succ, Nat.zero_add, Nat.add_zero, Nat.mul_one, Nat.zero_mul, m2, m3, m4]
  try simp only [Nat.mul_one, Nat.zero_add, Nat.add_sub_cancel_left]
  refine plan_callx rfl rfl hH cf15 (fun w' hH => new_calls _ _ w' (flow_key (hH.blk 0 rfl)) (by simp)) rfl (fun _ _ _ h => h.choose_spec.2.1) ?_
  clear hH
  intro w17 v18 w19 hH hp20
  obtain ⟨b21, rfl, hg, hfr, hbk⟩ := hp20
  replace hH := hH.callnew hg hbk hfr
  clear hg hfr hbk
  try simp only [n0, n1, n2, n3, List.getD_cons_zero, List.getD_cons_succ, List.set_cons_zero, List.set_cons_succ, Nat.zero_add, Nat.add_zero, Nat.mul_one, Nat.zero_mul, m2, m3, m4, m5, m6, m7, Value.cells, arr8_set, arr32_set, arr64_set] at hH ⊢
  try simp only [n0, n1, n2, n3, List.getD_cons_zero, List.getD_cons_succ, List.set_cons_zero, List.set_cons_succ, Nat.zero_add, Nat.add_zero, Nat.mul_one, Nat.zero_mul, m2, m3, m4]
  refine plan_p rfl rfl pr_move ?_
  try simp only [n0, n1, n2, n3, List.getD_cons_zero, List.getD_cons_succ, List.set_cons_zero, List.set_cons_succ, Nat.zero_add, Nat.add_zero, Nat.mul_one, Nat.zero_mul, m2, m3, m4]
  refine plan_p rfl rfl (pr_extract rfl rfl) ?_
  try simp only [n0, n1, n2, n3, List.getD_cons_zero, List.getD_cons_succ, List.set_cons_zero, List.set_cons_succ, Nat.zero_add, Nat.add_zero, Nat.mul_one, Nat.zero_mul, m2, m3, m4]
  refine plan_p rfl rfl (pr_extract rfl rfl) ?_
  try simp only [n0, n1, n2, n3, List.getD_cons_zero, List.getD_cons_succ, List.set_cons_zero, List.set_cons_succ, Nat.zero_add, Nat.add_zero, Nat.mul_one, Nat.zero_mul, m2, m3, m4]
  refine plan_p rfl rfl pr_assign ?_
  try simp only [n0, n1, n2, n3, List.getD_cons_zero, List.getD_cons_succ, List.set_cons_zero, List.set_cons_succ, Nat.zero_add, Nat.add_zero, Nat.mul_one, Nat.zero_mul, m2, m3, m4]
  refine plan_p rfl rfl pr_assign ?_
  try simp only [n0, n1, n2, n3, List.getD_cons_zero, List.getD_cons_succ, List.set_cons_zero, List.set_cons_succ, Nat.zero_add, Nat.add_zero, Nat.mul_one, Nat.zero_mul, m2, m3, m4]
  refine plan_nil hH ?_
  clear hH
  intro w22 hH
  refine hK16 _ _ ?_
  try clear hK16 K16
  refine wp_seq_k ?_
  intro K23 hK23
  refine wp_seq_k ?_
  intro K24 hK24
  refine wp_region_text [.q 0, .p 1, .p 2, .p 3, .p 4, .p 5] rfl ?_
  refine plan_q rfl rfl (qr_call cf16 (fun w' hw => turns_calls w') rfl) ?_
  try simp only [n0, n1, n2, n3, List.getD_cons_zero, List.getD_cons_succ, List.set_cons_zero, List.set_cons_succ, Nat.zero_add, Nat.add_zero, Nat.mul_one, Nat.zero_mul, m2, m3, m4]
  refine plan_p rfl rfl (pr_not rfl) ?_
  try simp only [n0, n1, n2, n3, List.getD_cons_zero, List.getD_cons_succ, List.set_cons_zero, List.set_cons_succ, Nat.zero_add, Nat.add_zero, Nat.mul_one, Nat.zero_mul, m2, m3, m4]
  refine plan_p (v := BV false) rfl rfl (pr_move_v rfl) ?_
  try simp only [n0, n1, n2, n3, List.getD_cons_zero, List.getD_cons_succ, List.set_cons_zero, List.set_cons_succ, Nat.zero_add, Nat.add_zero, Nat.mul_one, Nat.zero_mul, m2, m3, m4]
  refine plan_p rfl rfl pr_move ?_
  try simp only [n0, n1, n2, n3, List.getD_cons_zero, List.getD_cons_succ, List.set_cons_zero, List.set_cons_succ, Nat.zero_add, Nat.add_zero, Nat.mul_one, Nat.zero_mul, m2, m3, m4]
  refine plan_p rfl rfl (pr_bin rfl rfl (by first | exact bin_neq_n (n := 0)  | exact bin_neq_i)) ?_
  try simp only [n0, n1, n2, n3, List.getD_cons_zero, List.getD_cons_succ, List.set_cons_zero, List.set_cons_succ, Nat.zero_add, Nat.add_zero, Nat.mul_one, Nat.zero_mul, m2, m3, m4]
  refine plan_p rfl rfl (pr_pick_f rfl) ?_
  try simp only [n0, n1, n2, n3, List.getD_cons_zero, List.getD_cons_succ, List.set_cons_zero, List.set_cons_succ, Nat.zero_add, Nat.add_zero, Nat.mul_one, Nat.zero_mul, m2, m3, m4]
  refine plan_nil hH ?_
  clear hH
  intro w25 hH
  refine hK24 _ _ ?_
  try clear hK24 K24
  refine wp_cond_false rfl ?_
  refine wp_skip ?_
  refine hK23 _ _ ?_
  try clear hK23 K23
  refine wp_seq_k ?_
  intro K26 hK26
  refine wp_region_text [.p 0, .q 1, .p 2, .p 3, .p 4, .p 5] rfl ?_
  refine plan_p rfl rfl (pr_fieldAddr 32 rfl Try.underlying40 rfl rfl sz3) ?_
  try simp only [n0, n1, n2, n3, List.getD_cons_zero, List.getD_cons_succ, List.set_cons_zero, List.set_cons_succ, Nat.zero_add, Nat.add_zero, Nat.mul_one, Nat.zero_mul, m2, m3, m4]
  refine plan_q rfl rfl (qr_load1 rfl Try.underlying3 rfl ((hH.blk 0 rfl).cell flowC_at)) ?_
  try simp only [n0, n1, n2, n3, List.getD_cons_zero, List.getD_cons_succ, List.set_cons_zero, List.set_cons_succ, Nat.zero_add, Nat.add_zero, Nat.mul_one, Nat.zero_mul, m2, m3, m4]
  refine plan_p rfl rfl (pr_conv rfl (by first | exact cnv_n_u64 Try.underlying3 Try.underlying43 | exact cnv_i_u64 Try.underlying3 Try.underlying43)) ?_
  try simp only [n0, n1, n2, n3, List.getD_cons_zero, List.getD_cons_succ, List.set_cons_zero, List.set_cons_succ, Nat.zero_add, Nat.add_zero, Nat.mul_one, Nat.zero_mul, m2, m3, m4]
  refine plan_p rfl rfl (pr_bin rfl rfl (bin_rem_u64 _ 1000 (by decide))) ?_
  try simp only [n0, n1, n2, n3, List.getD_cons_zero, List.getD_cons_succ, List.set_cons_zero, List.set_cons_succ, Nat.zero_add, Nat.add_zero, Nat.mul_one, Nat.zero_mul, m2, m3, m4]
  refine plan_p rfl rfl (pr_conv rfl (cnv_u64_n _ Try.underlying43 Try.underlying3 (by first | omega | (first | exact Nat.lt_trans (u64_mod_k _ 1000 1000 rfl (by omega)) (by omega) | exact Nat.lt_trans (u64_mod_k _ _ _ (ofNat_toNat64 (bl.length + 1) (by omega)) (by omega)) (by omega) | (simp [ByteArray.size, strm_len]; omega))))) ?_
  try simp only [n0, n1, n2, n3, List.getD_cons_zero, List.getD_cons_succ, List.set_cons_zero, List.set_cons_succ, Nat.zero_add, Nat.add_zero, Nat.mul_one, Nat.zero_mul, m2, m3, m4]
  refine plan_p rfl rfl pr_assign ?_
  try simp only [n0, n1, n2, n3, List.getD_cons_zero, List.getD_cons_succ, List.set_cons_zero, List.set_cons_succ, Nat.zero_add, Nat.add_zero, Nat.mul_one, Nat.zero_mul, m2, m3, m4]
  refine plan_nil hH ?_
  clear hH
  intro w27 hH
  have hp : (UInt64.ofNat (a % 18446744073709551616).toNat % 1000).toNat < 1000 := u64_mod_k _ _ 1000 rfl (by omega)
  generalize (UInt64.ofNat (a % 18446744073709551616).toNat % 1000).toNat = p at hp ⊢
  have hne : UInt64.ofNat (bl.length + 1) ≠ 0 := fun h => by have := congrArg UInt64.toNat h; rw [ofNat_toNat64 _ (by omega)] at this; simp at this
  refine hK26 _ _ ?_
  try clear hK26 K26
  refine wp_seq_k ?_
  intro K28 hK28
  refine wp_region_text [.p 0, .p 1, .p 2, .p 3, .p 4, .p 5, .p 6, .p 7, .p 8] rfl ?_
  refine plan_p rfl rfl pr_move ?_
  try simp only [n0, n1, n2, n3, List.getD_cons_zero, List.getD_cons_succ, List.set_cons_zero, List.set_cons_succ, Nat.zero_add, Nat.add_zero, Nat.mul_one, Nat.zero_mul, m2, m3, m4]
  refine plan_p rfl rfl (pr_conv rfl (by first | exact cnv_n_u64 Try.underlying3 Try.underlying43 | exact cnv_i_u64 Try.underlying3 Try.underlying43)) ?_
  try simp only [n0, n1, n2, n3, List.getD_cons_zero, List.getD_cons_succ, List.set_cons_zero, List.set_cons_succ, Nat.zero_add, Nat.add_zero, Nat.mul_one, Nat.zero_mul, m2, m3, m4]
  refine plan_p rfl rfl pr_move ?_
  try simp only [n0, n1, n2, n3, List.getD_cons_zero, List.getD_cons_succ, List.set_cons_zero, List.set_cons_succ, Nat.zero_add, Nat.add_zero, Nat.mul_one, Nat.zero_mul, m2, m3, m4]
  refine plan_p rfl rfl (pr_len_sl rfl Try.underlying27) ?_
  try simp only [n0, n1, n2, n3, List.getD_cons_zero, List.getD_cons_succ, List.set_cons_zero, List.set_cons_succ, Nat.zero_add, Nat.add_zero, Nat.mul_one, Nat.zero_mul, m2, m3, m4]
  refine plan_p rfl rfl (pr_bin rfl rfl (by first | exact bin_add_n (n := 1) (by first | omega | (first | exact Nat.lt_trans (u64_mod_k _ 1000 1000 rfl (by omega)) (by omega) | exact Nat.lt_trans (u64_mod_k _ _ _ (ofNat_toNat64 (bl.length + 1) (by omega)) (by omega)) (by omega) | (simp [ByteArray.size, strm_len]; omega))) | exact bin_add_i (by first | omega | (first | exact Nat.lt_trans (u64_mod_k _ 1000 1000 rfl (by omega)) (by omega) | exact Nat.lt_trans (u64_mod_k _ _ _ (ofNat_toNat64 (bl.length + 1) (by omega)) (by omega)) (by omega) | (simp [ByteArray.size, strm_len]; omega))) (by first | omega | (first | exact Nat.lt_trans (u64_mod_k _ 1000 1000 rfl (by omega)) (by omega) | exact Nat.lt_trans (u64_mod_k _ _ _ (ofNat_toNat64 (bl.length + 1) (by omega)) (by omega)) (by omega) | (simp [ByteArray.size, strm_len]; omega))))) ?_
  try simp only [n0, n1, n2, n3, List.getD_cons_zero, List.getD_cons_succ, List.set_cons_zero, List.set_cons_succ, Nat.zero_add, Nat.add_zero, Nat.mul_one, Nat.zero_mul, m2, m3, m4]
  refine plan_p rfl rfl (pr_conv rfl (by first | exact cnv_n_u64 Try.underlying3 Try.underlying43 | exact cnv_i_u64 Try.underlying3 Try.underlying43)) ?_
  try simp only [n0, n1, n2, n3, List.getD_cons_zero, List.getD_cons_succ, List.set_cons_zero, List.set_cons_succ, Nat.zero_add, Nat.add_zero, Nat.mul_one, Nat.zero_mul, m2, m3, m4]
  refine plan_p rfl rfl (pr_bin rfl rfl (bin_rem_u64 _ _ (by assumption))) ?_
  try simp only [n0, n1, n2, n3, List.getD_cons_zero, List.getD_cons_succ, List.set_cons_zero, List.set_cons_succ, Nat.zero_add, Nat.add_zero, Nat.mul_one, Nat.zero_mul, m2, m3, m4]
  refine plan_p rfl rfl (pr_conv rfl (cnv_u64_n _ Try.underlying43 Try.underlying3 (by first | omega | (first | exact Nat.lt_trans (u64_mod_k _ 1000 1000 rfl (by omega)) (by omega) | exact Nat.lt_trans (u64_mod_k _ _ _ (ofNat_toNat64 (bl.length + 1) (by omega)) (by omega)) (by omega) | (simp [ByteArray.size, strm_len]; omega))))) ?_
  try simp only [n0, n1, n2, n3, List.getD_cons_zero, List.getD_cons_succ, List.set_cons_zero, List.set_cons_succ, Nat.zero_add, Nat.add_zero, Nat.mul_one, Nat.zero_mul, m2, m3, m4]
  refine plan_p rfl rfl pr_assign ?_
  try simp only [n0, n1, n2, n3, List.getD_cons_zero, List.getD_cons_succ, List.set_cons_zero, List.set_cons_succ, Nat.zero_add, Nat.add_zero, Nat.mul_one, Nat.zero_mul, m2, m3, m4]
  refine plan_nil hH ?_
  clear hH
  intro w29 hH
  have hk : (UInt64.ofNat (cut % 18446744073709551616).toNat % UInt64.ofNat (bl.length + 1)).toNat < bl.length + 1 := u64_mod_k _ _ _ (ofNat_toNat64 _ (by omega)) (by omega)
  generalize (UInt64.ofNat (cut % 18446744073709551616).toNat % UInt64.ofNat (bl.length + 1)).toNat = k at hk ⊢
  refine hK28 _ _ ?_
  try clear hK28 K28
  refine wp_seq_k ?_
  intro K30 hK30
  refine wp_region_text [.p 0, .p 1, .p 2, .p 3, .p 4, .x 5, .p 6, .p 7, .p 8, .p 9, .p 10] rfl ?_
  refine plan_p rfl rfl pr_move ?_
  try simp only [n0, n1, n2, n3, List.getD_cons_zero, List.getD_cons_succ, List.set_cons_zero, List.set_cons_succ, Nat.zero_add, Nat.add_zero, Nat.mul_one, Nat.zero_mul, m2, m3, m4]
  refine plan_p rfl rfl (pr_fieldAddr 16 rfl Try.underlying40 rfl rfl sz22) ?_
  try simp only [n0, n1, n2, n3, List.getD_cons_zero, List.getD_cons_succ, List.set_cons_zero, List.set_cons_succ, Nat.zero_add, Nat.add_zero, Nat.mul_one, Nat.zero_mul, m2, m3, m4]
  refine plan_p rfl rfl (pr_slice_arr_all rfl Try.underlying22 sz5) ?_
  try simp only [n0, n1, n2, n3, List.getD_cons_zero, List.getD_cons_succ, List.set_cons_zero, List.set_cons_succ, Nat.zero_add, Nat.add_zero, Nat.mul_one, Nat.zero_mul, m2, m3, m4]
  try simp only [Nat.mul_one, Nat.zero_add, Nat.add_sub_cancel_left]
  refine plan_p rfl rfl pr_move ?_
  try simp only [n0, n1, n2, n3, List.getD_cons_zero, List.getD_cons_succ, List.set_cons_zero, List.set_cons_succ, Nat.zero_add, Nat.add_zero, Nat.mul_one, Nat.zero_mul, m2, m3, m4]
  refine plan_p rfl rfl pr_move ?_
  try simp only [n0, n1, n2, n3, List.getD_cons_zero, List.getD_cons_succ, List.set_cons_zero, List.set_cons_succ, Nat.zero_add, Nat.add_zero, Nat.mul_one, Nat.zero_mul, m2, m3, m4]
  refine plan_callx rfl rfl hH cf21 (fun w' hH => stream_calls _ _ (fun i => ((List.range 16).map fun i => g i).getD i 0) _ _ _ _ _ w' (hH.blk 2 rfl) (flow_ctr (hH.blk 0 rfl)) (by simp) (fun i hi => rfl) (OwnC.sl hH 1 rfl hO12) (by omega) (by first | omega | (simp [strm_len]; omega))) rfl (fun _ _ _ h => by obtain ⟨_, _, _, _, hg, _⟩ := h; exact hg) ?_
  clear hH
  intro w31 v32 w33 hH hp34
  obtain ⟨o35, cap36, cs37, rfl, hg, hO38, hfr⟩ := hp34
  replace hH := hH.callown hg hfr
  clear hg hfr
  try simp only [n0, n1, n2, n3, List.getD_cons_zero, List.getD_cons_succ, List.set_cons_zero, List.set_cons_succ, Nat.zero_add, Nat.add_zero, Nat.mul_one, Nat.zero_mul, m2, m3, m4, m5, m6, m7, Value.cells, arr8_set, arr32_set, arr64_set] at hH ⊢
  try simp only [n0, n1, n2, n3, List.getD_cons_zero, List.getD_cons_succ, List.set_cons_zero, List.set_cons_succ, Nat.zero_add, Nat.add_zero, Nat.mul_one, Nat.zero_mul, m2, m3, m4]
  refine plan_p rfl rfl pr_move ?_
  try simp only [n0, n1, n2, n3, List.getD_cons_zero, List.getD_cons_succ, List.set_cons_zero, List.set_cons_succ, Nat.zero_add, Nat.add_zero, Nat.mul_one, Nat.zero_mul, m2, m3, m4]
  refine plan_p rfl rfl (pr_extract rfl rfl) ?_
  try simp only [n0, n1, n2, n3, List.getD_cons_zero, List.getD_cons_succ, List.set_cons_zero, List.set_cons_succ, Nat.zero_add, Nat.add_zero, Nat.mul_one, Nat.zero_mul, m2, m3, m4]
  refine plan_p rfl rfl (pr_extract rfl rfl) ?_
  try simp only [n0, n1, n2, n3, List.getD_cons_zero, List.getD_cons_succ, List.set_cons_zero, List.set_cons_succ, Nat.zero_add, Nat.add_zero, Nat.mul_one, Nat.zero_mul, m2, m3, m4]
  refine plan_p rfl rfl pr_assign ?_
  try simp only [n0, n1, n2, n3, List.getD_cons_zero, List.getD_cons_succ, List.set_cons_zero, List.set_cons_succ, Nat.zero_add, Nat.add_zero, Nat.mul_one, Nat.zero_mul, m2, m3, m4]
  refine plan_p rfl rfl pr_assign ?_
  try simp only [n0, n1, n2, n3, List.getD_cons_zero, List.getD_cons_succ, List.set_cons_zero, List.set_cons_succ, Nat.zero_add, Nat.add_zero, Nat.mul_one, Nat.zero_mul, m2, m3, m4]
  refine plan_nil hH ?_
  clear hH
  intro w39 hH
  refine hK30 _ _ ?_
  try clear hK30 K30
  refine wp_seq_k ?_
  intro K40 hK40
  refine wp_region_text [.p 0, .p 1, .p 2, .p 3, .p 4, .x 5, .p 6, .p 7, .p 8, .p 9, .p 10] rfl ?_
  refine plan_p rfl rfl pr_move ?_
  try simp only [n0, n1, n2, n3, List.getD_cons_zero, List.getD_cons_succ, List.set_cons_zero, List.set_cons_succ, Nat.zero_add, Nat.add_zero, Nat.mul_one, Nat.zero_mul, m2, m3, m4]
  refine plan_p rfl rfl (pr_fieldAddr 16 rfl Try.underlying40 rfl rfl sz22) ?_
  try simp only [n0, n1, n2, n3, List.getD_cons_zero, List.getD_cons_succ, List.set_cons_zero, List.set_cons_succ, Nat.zero_add, Nat.add_zero, Nat.mul_one, Nat.zero_mul, m2, m3, m4]
  refine plan_p rfl rfl (pr_slice_arr_all rfl Try.underlying22 sz5) ?_
  try simp only [n0, n1, n2, n3, List.getD_cons_zero, List.getD_cons_succ, List.set_cons_zero, List.set_cons_succ, Nat.zero_add, Nat.add_zero, Nat.mul_one, Nat.zero_mul, m2, m3, m4]
  try simp only [Nat.mul_one, Nat.zero_add, Nat.add_sub_cancel_left]
  refine plan_p rfl rfl pr_move ?_
  try simp only [n0, n1, n2, n3, List.getD_cons_zero, List.getD_cons_succ, List.set_cons_zero, List.set_cons_succ, Nat.zero_add, Nat.add_zero, Nat.mul_one, Nat.zero_mul, m2, m3, m4]
  refine plan_p rfl rfl pr_move ?_
  try simp only [n0, n1, n2, n3, List.getD_cons_zero, List.getD_cons_succ, List.set_cons_zero, List.set_cons_succ, Nat.zero_add, Nat.add_zero, Nat.mul_one, Nat.zero_mul, m2, m3, m4]
  refine plan_callx rfl rfl hH cf21 (fun w' hH => stream_calls _ _ (fun i => ((List.range 16).map fun i => g i).getD i 0) _ _ _ _ _ w' (hH.blk 2 rfl) (flow_ctr (hH.blk 0 rfl)) (by simp) (fun i hi => rfl) (OwnC.sl hH 3 rfl hO38) (by omega) (by first | omega | (simp [strm_len]; omega))) rfl (fun _ _ _ h => by obtain ⟨_, _, _, _, hg, _⟩ := h; exact hg) ?_
  clear hH
  intro w41 v42 w43 hH hp44
  obtain ⟨o45, cap46, cs47, rfl, hg, hO48, hfr⟩ := hp44
  replace hH := hH.callown hg hfr
  clear hg hfr
  try simp only [n0, n1, n2, n3, List.getD_cons_zero, List.getD_cons_succ, List.set_cons_zero, List.set_cons_succ, Nat.zero_add, Nat.add_zero, Nat.mul_one, Nat.zero_mul, m2, m3, m4, m5, m6, m7, Value.cells, arr8_set, arr32_set, arr64_set] at hH ⊢
  try simp only [n0, n1, n2, n3, List.getD_cons_zero, List.getD_cons_succ, List.set_cons_zero, List.set_cons_succ, Nat.zero_add, Nat.add_zero, Nat.mul_one, Nat.zero_mul, m2, m3, m4]
  refine plan_p rfl rfl pr_move ?_
  try simp only [n0, n1, n2, n3, List.getD_cons_zero, List.getD_cons_succ, List.set_cons_zero, List.set_cons_succ, Nat.zero_add, Nat.add_zero, Nat.mul_one, Nat.zero_mul, m2, m3, m4]
  refine plan_p rfl rfl (pr_extract rfl rfl) ?_
  try simp only [n0, n1, n2, n3, List.getD_cons_zero, List.getD_cons_succ, List.set_cons_zero, List.set_cons_succ, Nat.zero_add, Nat.add_zero, Nat.mul_one, Nat.zero_mul, m2, m3, m4]
  refine plan_p rfl rfl (pr_extract rfl rfl) ?_
  try simp only [n0, n1, n2, n3, List.getD_cons_zero, List.getD_cons_succ, List.set_cons_zero, List.set_cons_succ, Nat.zero_add, Nat.add_zero, Nat.mul_one, Nat.zero_mul, m2, m3, m4]
  refine plan_p rfl rfl pr_assign ?_
  try simp only [n0, n1, n2, n3, List.getD_cons_zero, List.getD_cons_succ, List.set_cons_zero, List.set_cons_succ, Nat.zero_add, Nat.add_zero, Nat.mul_one, Nat.zero_mul, m2, m3, m4]
  refine plan_p rfl rfl pr_assign ?_
  try simp only [n0, n1, n2, n3, List.getD_cons_zero, List.getD_cons_succ, List.set_cons_zero, List.set_cons_succ, Nat.zero_add, Nat.add_zero, Nat.mul_one, Nat.zero_mul, m2, m3, m4]
  refine plan_nil hH ?_
  clear hH
  intro w49 hH
  refine hK40 _ _ ?_
  try clear hK40 K40
  refine wp_seq_k ?_
  intro K50 hK50
  refine wp_region_plan [.p 0, .p 1, .p 2, .p 3, .p 4, .p 5, .p 6, .x 7, .p 8, .p 9, .p 10, .p 11, .p 12] (by kernel_rfl) (by kernel_rfl) (by kernel_rfl) (by kernel_rfl) (fun _ _ _ _ _ h => by first | exact h | exact BP.panic _ _ _ _ _ h) ?_
  refine plan_p rfl rfl pr_move ?_
  try simp only [n0, n1, n2, n3, List.getD_cons_zero, List.getD_cons_succ, List.set_cons_zero, List.set_cons_succ, Nat.zero_add, Nat.add_zero, Nat.mul_one, Nat.zero_mul, m2, m3, m4]
  refine plan_p rfl rfl (pr_fieldAddr 16 rfl Try.underlying40 rfl rfl sz22) ?_
  try simp only [n0, n1, n2, n3, List.getD_cons_zero, List.getD_cons_succ, List.set_cons_zero, List.set_cons_succ, Nat.zero_add, Nat.add_zero, Nat.mul_one, Nat.zero_mul, m2, m3, m4]
  refine plan_p rfl rfl (pr_slice_arr_all rfl Try.underlying22 sz5) ?_
  try simp only [n0, n1, n2, n3, List.getD_cons_zero, List.getD_cons_succ, List.set_cons_zero, List.set_cons_succ, Nat.zero_add, Nat.add_zero, Nat.mul_one, Nat.zero_mul, m2, m3, m4]
  try simp only [Nat.mul_one, Nat.zero_add, Nat.add_sub_cancel_left]
  refine plan_p rfl rfl pr_move ?_
  try simp only [n0, n1, n2, n3, List.getD_cons_zero, List.getD_cons_succ, List.set_cons_zero, List.set_cons_succ, Nat.zero_add, Nat.add_zero, Nat.mul_one, Nat.zero_mul, m2, m3, m4]
  refine plan_p rfl rfl pr_move ?_
  try simp only [n0, n1, n2, n3, List.getD_cons_zero, List.getD_cons_succ, List.set_cons_zero, List.set_cons_succ, Nat.zero_add, Nat.add_zero, Nat.mul_one, Nat.zero_mul, m2, m3, m4]
  refine plan_p rfl rfl pr_move ?_
  try simp only [n0, n1, n2, n3, List.getD_cons_zero, List.getD_cons_succ, List.set_cons_zero, List.set_cons_succ, Nat.zero_add, Nat.add_zero, Nat.mul_one, Nat.zero_mul, m2, m3, m4]
  refine plan_p rfl rfl (pr_slice_Sl_h (OwnC.sl hH 1 rfl hO12) rfl rfl Try.underlying27 sz5 (by first | omega | (first | exact Nat.lt_trans (u64_mod_k _ 1000 1000 rfl (by omega)) (by omega) | exact Nat.lt_trans (u64_mod_k _ _ _ (ofNat_toNat64 (bl.length + 1) (by omega)) (by omega)) (by omega) | (simp [ByteArray.size, strm_len]; omega)))) ?_
  try simp only [n0, n1, n2, n3, List.getD_cons_zero, List.getD_cons_succ, List.set_cons_zero, List.set_cons_succ, Nat.zero_add, Nat.add_zero, Nat.mul_one, Nat.zero_mul, m2, m3, m4]
  refine plan_callx rfl rfl hH cf21 (fun w' hH => stream_calls _ _ (fun i => ((List.range 16).map fun i => g i).getD i 0) _ _ _ _ _ w' (hH.blk 2 rfl) (flow_ctr (hH.blk 0 rfl)) (by simp) (fun i hi => rfl) (Sl.cuth (OwnC.sl hH 1 rfl hO12) (by first | omega | (first | exact Nat.lt_trans (u64_mod_k _ 1000 1000 rfl (by omega)) (by omega) | exact Nat.lt_trans (u64_mod_k _ _ _ (ofNat_toNat64 (bl.length + 1) (by omega)) (by omega)) (by omega) | (simp [ByteArray.size, strm_len]; omega)))) (by omega) (by first | omega | (simp [strm_len]; omega))) rfl (fun _ _ _ h => by obtain ⟨_, _, _, _, hg, _⟩ := h; exact hg) ?_
  clear hH
  intro w51 v52 w53 hH hp54
  obtain ⟨o55, cap56, cs57, rfl, hg, hO58, hfr⟩ := hp54
  replace hH := hH.callown hg hfr
  clear hg hfr
  try simp only [n0, n1, n2, n3, List.getD_cons_zero, List.getD_cons_succ, List.set_cons_zero, List.set_cons_succ, Nat.zero_add, Nat.add_zero, Nat.mul_one, Nat.zero_mul, m2, m3, m4, m5, m6, m7, Value.cells, arr8_set, arr32_set, arr64_set] at hH ⊢
  try simp only [n0, n1, n2, n3, List.getD_cons_zero, List.getD_cons_succ, List.set_cons_zero, List.set_cons_succ, Nat.zero_add, Nat.add_zero, Nat.mul_one, Nat.zero_mul, m2, m3, m4]
  refine plan_p rfl rfl pr_move ?_
  try simp only [n0, n1, n2, n3, List.getD_cons_zero, List.getD_cons_succ, List.set_cons_zero, List.set_cons_succ, Nat.zero_add, Nat.add_zero, Nat.mul_one, Nat.zero_mul, m2, m3, m4]
  refine plan_p rfl rfl (pr_extract rfl rfl) ?_
  try simp only [n0, n1, n2, n3, List.getD_cons_zero, List.getD_cons_succ, List.set_cons_zero, List.set_cons_succ, Nat.zero_add, Nat.add_zero, Nat.mul_one, Nat.zero_mul, m2, m3, m4]
  refine plan_p rfl rfl (pr_extract rfl rfl) ?_
  try simp only [n0, n1, n2, n3, List.getD_cons_zero, List.getD_cons_succ, List.set_cons_zero, List.set_cons_succ, Nat.zero_add, Nat.add_zero, Nat.mul_one, Nat.zero_mul, m2, m3, m4]
  refine plan_p rfl rfl pr_assign ?_
  try simp only [n0, n1, n2, n3, List.getD_cons_zero, List.getD_cons_succ, List.set_cons_zero, List.set_cons_succ, Nat.zero_add, Nat.add_zero, Nat.mul_one, Nat.zero_mul, m2, m3, m4]
  refine plan_p rfl rfl pr_assign ?_
  try simp only [n0, n1, n2, n3, List.getD_cons_zero, List.getD_cons_succ, List.set_cons_zero, List.set_cons_succ, Nat.zero_add, Nat.add_zero, Nat.mul_one, Nat.zero_mul, m2, m3, m4]
  refine plan_nil hH ?_
  clear hH
  intro w59 hH
  refine hK50 _ _ ?_
  try clear hK50 K50
  refine wp_seq_k ?_
  intro K60 hK60
  refine wp_region_plan [.p 0, .p 1, .p 2, .p 3, .p 4, .p 5, .p 6, .p 7, .p 8, .x 9, .p 10, .p 11, .p 12, .p 13, .p 14] (by kernel_rfl) (by kernel_rfl) (by kernel_rfl) (by kernel_rfl) (fun _ _ _ _ _ h => by first | exact h | exact BP.panic _ _ _ _ _ h) ?_
  refine plan_p rfl rfl pr_move ?_
  try simp only [n0, n1, n2, n3, List.getD_cons_zero, List.getD_cons_succ, List.set_cons_zero, List.set_cons_succ, Nat.zero_add, Nat.add_zero, Nat.mul_one, Nat.zero_mul, m2, m3, m4]
  refine plan_p rfl rfl (pr_fieldAddr 16 rfl Try.underlying40 rfl rfl sz22) ?_
  try simp only [n0, n1, n2, n3, List.getD_cons_zero, List.getD_cons_succ, List.set_cons_zero, List.set_cons_succ, Nat.zero_add, Nat.add_zero, Nat.mul_one, Nat.zero_mul, m2, m3, m4]
  refine plan_p rfl rfl (pr_slice_arr_all rfl Try.underlying22 sz5) ?_
  try simp only [n0, n1, n2, n3, List.getD_cons_zero, List.getD_cons_succ, List.set_cons_zero, List.set_cons_succ, Nat.zero_add, Nat.add_zero, Nat.mul_one, Nat.zero_mul, m2, m3, m4]
  try simp only [Nat.mul_one, Nat.zero_add, Nat.add_sub_cancel_left]
  refine plan_p rfl rfl pr_move ?_
  try simp only [n0, n1, n2, n3, List.getD_cons_zero, List.getD_cons_succ, List.set_cons_zero, List.set_cons_succ, Nat.zero_add, Nat.add_zero, Nat.mul_one, Nat.zero_mul, m2, m3, m4]
  refine plan_p rfl rfl pr_move ?_
  try simp only [n0, n1, n2, n3, List.getD_cons_zero, List.getD_cons_succ, List.set_cons_zero, List.set_cons_succ, Nat.zero_add, Nat.add_zero, Nat.mul_one, Nat.zero_mul, m2, m3, m4]
  refine plan_p rfl rfl (pr_bin rfl rfl (by first | exact bin_add_n (by first | omega | (first | exact Nat.lt_trans (u64_mod_k _ 1000 1000 rfl (by omega)) (by omega) | exact Nat.lt_trans (u64_mod_k _ _ _ (ofNat_toNat64 (bl.length + 1) (by omega)) (by omega)) (by omega) | (simp [ByteArray.size, strm_len]; omega))) | exact bin_add_i (by first | omega | (first | exact Nat.lt_trans (u64_mod_k _ 1000 1000 rfl (by omega)) (by omega) | exact Nat.lt_trans (u64_mod_k _ _ _ (ofNat_toNat64 (bl.length + 1) (by omega)) (by omega)) (by omega) | (simp [ByteArray.size, strm_len]; omega))) (by first | omega | (first | exact Nat.lt_trans (u64_mod_k _ 1000 1000 rfl (by omega)) (by omega) | exact Nat.lt_trans (u64_mod_k _ _ _ (ofNat_toNat64 (bl.length + 1) (by omega)) (by omega)) (by omega) | (simp [ByteArray.size, strm_len]; omega))))) ?_
  try simp only [n0, n1, n2, n3, List.getD_cons_zero, List.getD_cons_succ, List.set_cons_zero, List.set_cons_succ, Nat.zero_add, Nat.add_zero, Nat.mul_one, Nat.zero_mul, m2, m3, m4]
  refine plan_p rfl rfl pr_move ?_
  try simp only [n0, n1, n2, n3, List.getD_cons_zero, List.getD_cons_succ, List.set_cons_zero, List.set_cons_succ, Nat.zero_add, Nat.add_zero, Nat.mul_one, Nat.zero_mul, m2, m3, m4]
  refine plan_p rfl rfl pr_move ?_
  try simp only [n0, n1, n2, n3, List.getD_cons_zero, List.getD_cons_succ, List.set_cons_zero, List.set_cons_succ, Nat.zero_add, Nat.add_zero, Nat.mul_one, Nat.zero_mul, m2, m3, m4]
  refine plan_p rfl rfl (pr_slice_Sl_l (OwnC.sl hH 1 rfl hO12) rfl rfl Try.underlying27 sz5 (by first | omega | (first | exact Nat.lt_trans (u64_mod_k _ 1000 1000 rfl (by omega)) (by omega) | exact Nat.lt_trans (u64_mod_k _ _ _ (ofNat_toNat64 (bl.length + 1) (by omega)) (by omega)) (by omega) | (simp [ByteArray.size, strm_len]; omega)))) ?_
  try simp only [n0, n1, n2, n3, List.getD_cons_zero, List.getD_cons_succ, List.set_cons_zero, List.set_cons_succ, Nat.zero_add, Nat.add_zero, Nat.mul_one, Nat.zero_mul, m2, m3, m4]
  refine plan_callx rfl rfl hH cf21 (fun w' hH => stream_calls _ _ (fun i => ((List.range 16).map fun i => g i).getD i 0) _ _ _ _ _ w' (hH.blk 2 rfl) (flow_ctr (hH.blk 0 rfl)) (by simp) (fun i hi => rfl) (Sl.cutl (OwnC.sl hH 1 rfl hO12) (by first | omega | (first | exact Nat.lt_trans (u64_mod_k _ 1000 1000 rfl (by omega)) (by omega) | exact Nat.lt_trans (u64_mod_k _ _ _ (ofNat_toNat64 (bl.length + 1) (by omega)) (by omega)) (by omega) | (simp [ByteArray.size, strm_len]; omega)))) (by omega) (by first | omega | (simp [strm_len]; omega))) rfl (fun _ _ _ h => by obtain ⟨_, _, _, _, hg, _⟩ := h; exact hg) ?_
  clear hH
  intro w61 v62 w63 hH hp64
  obtain ⟨o65, cap66, cs67, rfl, hg, hO68, hfr⟩ := hp64
  replace hH := hH.callown hg hfr
  clear hg hfr
  try simp only [n0, n1, n2, n3, List.getD_cons_zero, List.getD_cons_succ, List.set_cons_zero, List.set_cons_succ, Nat.zero_add, Nat.add_zero, Nat.mul_one, Nat.zero_mul, m2, m3, m4, m5, m6, m7, Value.cells, arr8_set, arr32_set, arr64_set] at hH ⊢
  try simp only [n0, n1, n2, n3, List.getD_cons_zero, List.getD_cons_succ, List.set_cons_zero, List.set_cons_succ, Nat.zero_add, Nat.add_zero, Nat.mul_one, Nat.zero_mul, m2, m3, m4]
  refine plan_p rfl rfl pr_move ?_
  try simp only [n0, n1, n2, n3, List.getD_cons_zero, List.getD_cons_succ, List.set_cons_zero, List.set_cons_succ, Nat.zero_add, Nat.add_zero, Nat.mul_one, Nat.zero_mul, m2, m3, m4]
  refine plan_p rfl rfl (pr_extract rfl rfl) ?_
  try simp only [n0, n1, n2, n3, List.getD_cons_zero, List.getD_cons_succ, List.set_cons_zero, List.set_cons_succ, Nat.zero_add, Nat.add_zero, Nat.mul_one, Nat.zero_mul, m2, m3, m4]
  refine plan_p rfl rfl (pr_extract rfl rfl) ?_
  try simp only [n0, n1, n2, n3, List.getD_cons_zero, List.getD_cons_succ, List.set_cons_zero, List.set_cons_succ, Nat.zero_add, Nat.add_zero, Nat.mul_one, Nat.zero_mul, m2, m3, m4]
  refine plan_p rfl rfl pr_assign ?_
  try simp only [n0, n1, n2, n3, List.getD_cons_zero, List.getD_cons_succ, List.set_cons_zero, List.set_cons_succ, Nat.zero_add, Nat.add_zero, Nat.mul_one, Nat.zero_mul, m2, m3, m4]
  refine plan_p rfl rfl pr_assign ?_
  try simp only [n0, n1, n2, n3, List.getD_cons_zero, List.getD_cons_succ, List.set_cons_zero, List.set_cons_succ, Nat.zero_add, Nat.add_zero, Nat.mul_one, Nat.zero_mul, m2, m3, m4]
  refine plan_nil hH ?_
  clear hH
  intro w69 hH
  refine hK60 _ _ ?_
  try clear hK60 K60
  refine wp_seq_k ?_
  intro K70 hK70
  refine wp_region_text [.p 0, .p 1, .p 2, .p 3, .p 4, .p 5, .p 6, .p 7, .p 8, .p 9, .p 10, .p 11, .p 12, .p 13, .p 14, .p 15, .q 16, .p 17, .p 18, .p 19, .p 20, .p 21, .q 22, .p 23, .q 24, .p 25, .p 26, .q 27, .p 28, .p 29, .p 30, .p 31, .q 32, .p 33, .p 34, .p 35, .p 36] rfl ?_
  refine plan_p rfl rfl pr_move ?_
  try simp only [n0, n1, n2, n3, List.getD_cons_zero, List.getD_cons_succ, List.set_cons_zero, List.set_cons_succ, Nat.zero_add, Nat.add_zero, Nat.mul_one, Nat.zero_mul, m2, m3, m4]
  refine plan_p rfl rfl (pr_bin rfl rfl (by first | exact bin_eql_n (n := 0)  | exact bin_eql_i)) ?_
  try simp only [n0, n1, n2, n3, List.getD_cons_zero, List.getD_cons_succ, List.set_cons_zero, List.set_cons_succ, Nat.zero_add, Nat.add_zero, Nat.mul_one, Nat.zero_mul, m2, m3, m4]
  refine plan_p (v := BV true) rfl rfl (pr_move_v rfl) ?_
  try simp only [n0, n1, n2, n3, List.getD_cons_zero, List.getD_cons_succ, List.set_cons_zero, List.set_cons_succ, Nat.zero_add, Nat.add_zero, Nat.mul_one, Nat.zero_mul, m2, m3, m4]
  refine plan_p rfl rfl pr_move ?_
  try simp only [n0, n1, n2, n3, List.getD_cons_zero, List.getD_cons_succ, List.set_cons_zero, List.set_cons_succ, Nat.zero_add, Nat.add_zero, Nat.mul_one, Nat.zero_mul, m2, m3, m4]
  refine plan_p rfl rfl (pr_bin rfl rfl (by first | exact bin_eql_n (n := 0)  | exact bin_eql_i)) ?_
  try simp only [n0, n1, n2, n3, List.getD_cons_zero, List.getD_cons_succ, List.set_cons_zero, List.set_cons_succ, Nat.zero_add, Nat.add_zero, Nat.mul_one, Nat.zero_mul, m2, m3, m4]
  refine plan_p rfl rfl (pr_pick_t rfl) ?_
  try simp only [n0, n1, n2, n3, List.getD_cons_zero, List.getD_cons_succ, List.set_cons_zero, List.set_cons_succ, Nat.zero_add, Nat.add_zero, Nat.mul_one, Nat.zero_mul, m2, m3, m4]
  refine plan_p (v := BV true) rfl rfl (pr_move_v rfl) ?_
  try simp only [n0, n1, n2, n3, List.getD_cons_zero, List.getD_cons_succ, List.set_cons_zero, List.set_cons_succ, Nat.zero_add, Nat.add_zero, Nat.mul_one, Nat.zero_mul, m2, m3, m4]
  refine plan_p rfl rfl pr_move ?_
  try simp only [n0, n1, n2, n3, List.getD_cons_zero, List.getD_cons_succ, List.set_cons_zero, List.set_cons_succ, Nat.zero_add, Nat.add_zero, Nat.mul_one, Nat.zero_mul, m2, m3, m4]
  refine plan_p rfl rfl (pr_bin rfl rfl (by first | exact bin_eql_n (n := 0)  | exact bin_eql_i)) ?_
  try simp only [n0, n1, n2, n3, List.getD_cons_zero, List.getD_cons_succ, List.set_cons_zero, List.set_cons_succ, Nat.zero_add, Nat.add_zero, Nat.mul_one, Nat.zero_mul, m2, m3, m4]
  refine plan_p rfl rfl (pr_pick_t rfl) ?_
  try simp only [n0, n1, n2, n3, List.getD_cons_zero, List.getD_cons_succ, List.set_cons_zero, List.set_cons_succ, Nat.zero_add, Nat.add_zero, Nat.mul_one, Nat.zero_mul, m2, m3, m4]
  refine plan_p (v := BV true) rfl rfl (pr_move_v rfl) ?_
  try simp only [n0, n1, n2, n3, List.getD_cons_zero, List.getD_cons_succ, List.set_cons_zero, List.set_cons_succ, Nat.zero_add, Nat.add_zero, Nat.mul_one, Nat.zero_mul, m2, m3, m4]
  refine plan_p rfl rfl pr_move ?_
  try simp only [n0, n1, n2, n3, List.getD_cons_zero, List.getD_cons_succ, List.set_cons_zero, List.set_cons_succ, Nat.zero_add, Nat.add_zero, Nat.mul_one, Nat.zero_mul, m2, m3, m4]
  refine plan_p rfl rfl (pr_bin rfl rfl (by first | exact bin_eql_n (n := 0)  | exact bin_eql_i)) ?_
  try simp only [n0, n1, n2, n3, List.getD_cons_zero, List.getD_cons_succ, List.set_cons_zero, List.set_cons_succ, Nat.zero_add, Nat.add_zero, Nat.mul_one, Nat.zero_mul, m2, m3, m4]
  refine plan_p rfl rfl (pr_pick_t rfl) ?_
  try simp only [n0, n1, n2, n3, List.getD_cons_zero, List.getD_cons_succ, List.set_cons_zero, List.set_cons_succ, Nat.zero_add, Nat.add_zero, Nat.mul_one, Nat.zero_mul, m2, m3, m4]
  refine plan_p (v := BV true) rfl rfl (pr_move_v rfl) ?_
  try simp only [n0, n1, n2, n3, List.getD_cons_zero, List.getD_cons_succ, List.set_cons_zero, List.set_cons_succ, Nat.zero_add, Nat.add_zero, Nat.mul_one, Nat.zero_mul, m2, m3, m4]
  refine plan_p rfl rfl pr_move ?_
  try simp only [n0, n1, n2, n3, List.getD_cons_zero, List.getD_cons_succ, List.set_cons_zero, List.set_cons_succ, Nat.zero_add, Nat.add_zero, Nat.mul_one, Nat.zero_mul, m2, m3, m4]
  refine plan_q rfl rfl (qr_b2s (OwnC.sl hH 4 rfl hO48) rfl Try.underlying27 Try.underlying5 Try.underlying9) ?_
  try simp only [n0, n1, n2, n3, List.getD_cons_zero, List.getD_cons_succ, List.set_cons_zero, List.set_cons_succ, Nat.zero_add, Nat.add_zero, Nat.mul_one, Nat.zero_mul, m2, m3, m4]
  refine plan_p rfl rfl pr_move ?_
  try simp only [n0, n1, n2, n3, List.getD_cons_zero, List.getD_cons_succ, List.set_cons_zero, List.set_cons_succ, Nat.zero_add, Nat.add_zero, Nat.mul_one, Nat.zero_mul, m2, m3, m4]
  refine plan_p rfl rfl (pr_bin rfl rfl bin_eql_s) ?_
  try simp only [n0, n1, n2, n3, List.getD_cons_zero, List.getD_cons_succ, List.set_cons_zero, List.set_cons_succ, Nat.zero_add, Nat.add_zero, Nat.mul_one, Nat.zero_mul, m2, m3, m4]
  refine plan_p rfl rfl (pr_pick_t rfl) ?_
  try simp only [n0, n1, n2, n3, List.getD_cons_zero, List.getD_cons_succ, List.set_cons_zero, List.set_cons_succ, Nat.zero_add, Nat.add_zero, Nat.mul_one, Nat.zero_mul, m2, m3, m4]
  refine plan_p (v := BV true) rfl rfl (pr_move_v (by show BV _ = _; rw [strm_len, strm_twice]; exact congrArg BV (beq_self_eq_true _))) ?_
  try simp only [n0, n1, n2, n3, List.getD_cons_zero, List.getD_cons_succ, List.set_cons_zero, List.set_cons_succ, Nat.zero_add, Nat.add_zero, Nat.mul_one, Nat.zero_mul, m2, m3, m4]
  refine plan_p rfl rfl pr_move ?_
  try simp only [n0, n1, n2, n3, List.getD_cons_zero, List.getD_cons_succ, List.set_cons_zero, List.set_cons_succ, Nat.zero_add, Nat.add_zero, Nat.mul_one, Nat.zero_mul, m2, m3, m4]
  refine plan_q rfl rfl (qr_b2s (OwnC.sl hH 5 rfl hO58) rfl Try.underlying27 Try.underlying5 Try.underlying9) ?_
  try simp only [n0, n1, n2, n3, List.getD_cons_zero, List.getD_cons_succ, List.set_cons_zero, List.set_cons_succ, Nat.zero_add, Nat.add_zero, Nat.mul_one, Nat.zero_mul, m2, m3, m4]
  refine plan_p rfl rfl pr_move ?_
  try simp only [n0, n1, n2, n3, List.getD_cons_zero, List.getD_cons_succ, List.set_cons_zero, List.set_cons_succ, Nat.zero_add, Nat.add_zero, Nat.mul_one, Nat.zero_mul, m2, m3, m4]
  refine plan_q rfl rfl (qr_b2s (OwnC.sl hH 6 rfl hO68) rfl Try.underlying27 Try.underlying5 Try.underlying9) ?_
  try simp only [n0, n1, n2, n3, List.getD_cons_zero, List.getD_cons_succ, List.set_cons_zero, List.set_cons_succ, Nat.zero_add, Nat.add_zero, Nat.mul_one, Nat.zero_mul, m2, m3, m4]
  refine plan_p rfl rfl (pr_bin rfl rfl (bin_add_s (by first | omega | (first | exact Nat.lt_trans (u64_mod_k _ 1000 1000 rfl (by omega)) (by omega) | exact Nat.lt_trans (u64_mod_k _ _ _ (ofNat_toNat64 (bl.length + 1) (by omega)) (by omega)) (by omega) | (simp [ByteArray.size, strm_len]; omega))))) ?_
  try simp only [n0, n1, n2, n3, List.getD_cons_zero, List.getD_cons_succ, List.set_cons_zero, List.set_cons_succ, Nat.zero_add, Nat.add_zero, Nat.mul_one, Nat.zero_mul, m2, m3, m4]
  refine plan_p rfl rfl pr_move ?_
  try simp only [n0, n1, n2, n3, List.getD_cons_zero, List.getD_cons_succ, List.set_cons_zero, List.set_cons_succ, Nat.zero_add, Nat.add_zero, Nat.mul_one, Nat.zero_mul, m2, m3, m4]
  refine plan_q rfl rfl (qr_b2s (OwnC.sl hH 3 rfl hO38) rfl Try.underlying27 Try.underlying5 Try.underlying9) ?_
  try simp only [n0, n1, n2, n3, List.getD_cons_zero, List.getD_cons_succ, List.set_cons_zero, List.set_cons_succ, Nat.zero_add, Nat.add_zero, Nat.mul_one, Nat.zero_mul, m2, m3, m4]
  refine plan_p rfl rfl (pr_bin rfl rfl bin_eql_s) ?_
  try simp only [n0, n1, n2, n3, List.getD_cons_zero, List.getD_cons_succ, List.set_cons_zero, List.set_cons_succ, Nat.zero_add, Nat.add_zero, Nat.mul_one, Nat.zero_mul, m2, m3, m4]
  refine plan_p rfl rfl (pr_pick_t rfl) ?_
  try simp only [n0, n1, n2, n3, List.getD_cons_zero, List.getD_cons_succ, List.set_cons_zero, List.set_cons_succ, Nat.zero_add, Nat.add_zero, Nat.mul_one, Nat.zero_mul, m2, m3, m4]
  refine plan_p (v := BV true) rfl rfl (pr_move_v (by show BV _ = _; rw [ByteArray.data_append, Array.toList_append]; exact congrArg BV (beq_iff_eq.2 (strm_parts _ _ _ _ _ (by omega))))) ?_
  try simp only [n0, n1, n2, n3, List.getD_cons_zero, List.getD_cons_succ, List.set_cons_zero, List.set_cons_succ, Nat.zero_add, Nat.add_zero, Nat.mul_one, Nat.zero_mul, m2, m3, m4]
  refine plan_p rfl rfl pr_move ?_
  try simp only [n0, n1, n2, n3, List.getD_cons_zero, List.getD_cons_succ, List.set_cons_zero, List.set_cons_succ, Nat.zero_add, Nat.add_zero, Nat.mul_one, Nat.zero_mul, m2, m3, m4]
  refine plan_q rfl rfl (qr_b2s (OwnC.sl hH 1 rfl hO12) rfl Try.underlying27 Try.underlying5 Try.underlying9) ?_
  try simp only [n0, n1, n2, n3, List.getD_cons_zero, List.getD_cons_succ, List.set_cons_zero, List.set_cons_succ, Nat.zero_add, Nat.add_zero, Nat.mul_one, Nat.zero_mul, m2, m3, m4]
  refine plan_p rfl rfl pr_move ?_
  try simp only [n0, n1, n2, n3, List.getD_cons_zero, List.getD_cons_succ, List.set_cons_zero, List.set_cons_succ, Nat.zero_add, Nat.add_zero, Nat.mul_one, Nat.zero_mul, m2, m3, m4]
  refine plan_p rfl rfl (pr_bin rfl rfl bin_eql_s) ?_
  try simp only [n0, n1, n2, n3, List.getD_cons_zero, List.getD_cons_succ, List.set_cons_zero, List.set_cons_succ, Nat.zero_add, Nat.add_zero, Nat.mul_one, Nat.zero_mul, m2, m3, m4]
  refine plan_p rfl rfl (pr_pick_t rfl) ?_
  try simp only [n0, n1, n2, n3, List.getD_cons_zero, List.getD_cons_succ, List.set_cons_zero, List.set_cons_succ, Nat.zero_add, Nat.add_zero, Nat.mul_one, Nat.zero_mul, m2, m3, m4]
  refine plan_p rfl rfl pr_assign ?_
  try simp only [n0, n1, n2, n3, List.getD_cons_zero, List.getD_cons_succ, List.set_cons_zero, List.set_cons_succ, Nat.zero_add, Nat.add_zero, Nat.mul_one, Nat.zero_mul, m2, m3, m4]
  refine plan_nil hH ?_
  clear hH
  intro w71 hH
  refine hK70 _ _ ?_
  try clear hK70 K70
  refine wp_ret ?_
  try simp only [Exit.then, Exit.inBlock, ↓reduceIte, Nat.reduceEqDiff]
  refine BP.ret1 rfl rfl ?_
  exact ⟨congrArg BV (beq_self_eq_true _), hH.chg⟩

end Go.Proofs.Ytjbohfonjalfnaa
