/- Walks of layer 4's laws: sealed, cut, none; and of GcmTimes. No conditions. -/
import Derived.Test.YtjbohfonjalfnaaGcmS
set_option linter.unusedSimpArgs false
set_option linter.unusedVariables false
set_option maxRecDepth 100000
set_option maxHeartbeats 4000000
namespace Go.Proofs.Ytjbohfonjalfnaa
open Go
open List (getD_cons_zero getD_cons_succ set_cons_zero set_cons_succ)
open Nat (zero_add add_zero mul_one zero_mul)

def zKL : List UInt8 := [0, 0, 0, 0, 0, 0, 0, 0, 0, 0, 0, 0, 0, 0, 0, 0, 98, 99, 99, 99, 98, 99, 99, 99, 98, 99, 99, 99, 98, 99, 99, 99, 155, 152, 152, 201, 249, 251, 251, 170, 155, 152, 152, 201, 249, 251, 251, 170, 144, 151, 52, 80, 105, 108, 207, 250, 242, 244, 87, 51, 11, 15, 172, 153, 238, 6, 218, 123, 135, 106, 21, 129, 117, 158, 66, 178, 126, 145, 238, 43, 127, 46, 43, 136, 248, 68, 62, 9, 141, 218, 124, 187, 243, 75, 146, 144, 236, 97, 75, 133, 20, 37, 117, 140, 153, 255, 9, 55, 106, 180, 155, 167, 33, 117, 23, 135, 53, 80, 98, 11, 172, 175, 107, 60, 198, 27, 240, 155, 14, 249, 3, 51, 59, 169, 97, 56, 151, 6, 10, 4, 81, 29, 250, 159, 177, 212, 216, 226, 138, 125, 185, 218, 29, 123, 179, 222, 76, 102, 73, 65, 180, 239, 91, 203, 62, 146, 226, 17, 35, 233, 81, 207, 111, 143, 24, 142]
def zB (i : Nat) : UInt8 := if i = 15 then 1 else 0
theorem z_key (i : Nat) (hi : i < 176) : kexp (fun _ => 0) i = zKL.getD i 0 := by
  refine kexp_is _ (fun n => zKL.getD n 0) 176 (fun n hn => ?_) i hi
  have : ((List.range 176).all fun n => (if n < 16 then 0
    else if n % 16 < 4 then zKL.getD (n - 16) 0 ^^^ (sbox (zKL.getD (n - n % 16 - 4 + (n % 16 + 1) % 4) 0).toNat ^^^ (if n % 16 = 0 then conN (n / 16 - 1) else 0))
    else zKL.getD (n - 16) 0 ^^^ zKL.getD (n - 4) 0) == zKL.getD n 0) = true := by kernel_rfl
  exact eq_of_beq (List.all_eq_true.1 this n (List.mem_range.2 hn))
theorem z_r0 (i : Nat) (hi : i < 16) : aesR (kexp fun _ => 0) zB 0 i = ([0, 0, 0, 0, 0, 0, 0, 0, 0, 0, 0, 0, 0, 0, 0, 1] : List UInt8).getD i 0 := by
  show zB i ^^^ kexp _ i = _
  rw [z_key i (by omega)]
  have : ((List.range 16).all fun i => (zB i ^^^ zKL.getD i 0) == ([0, 0, 0, 0, 0, 0, 0, 0, 0, 0, 0, 0, 0, 0, 0, 1] : List UInt8).getD i 0) = true := by kernel_rfl
  exact eq_of_beq (List.all_eq_true.1 this i (List.mem_range.2 hi))

theorem z_r1 : ∀ i, i < 16 → aesR (kexp fun _ => 0) zB 1 i = [30, 31, 33, 62, 1, 0, 0, 0, 1, 0, 0, 0, 1, 0, 0, 0].getD i 0 :=
  aes_step _ (fun i => zKL.getD i 0) _ 0 [0, 0, 0, 0, 0, 0, 0, 0, 0, 0, 0, 0, 0, 0, 0, 1] [30, 31, 33, 62, 1, 0, 0, 0, 1, 0, 0, 0, 1, 0, 0, 0] z_key (by decide) z_r0 (by kernel_rfl)

theorem z_r2 : ∀ i, i < 16 → aesR (kexp fun _ => 0) zB 2 i = [218, 234, 234, 153, 117, 86, 239, 81, 88, 93, 195, 21, 90, 218, 36, 75].getD i 0 :=
  aes_step _ (fun i => zKL.getD i 0) _ 1 [30, 31, 33, 62, 1, 0, 0, 0, 1, 0, 0, 0, 1, 0, 0, 0] [218, 234, 234, 153, 117, 86, 239, 81, 88, 93, 195, 21, 90, 218, 36, 75] z_key (by decide) z_r1 (by kernel_rfl)

theorem z_r3 : ∀ i, i < 16 → aesR (kexp fun _ => 0) zB 3 i = [107, 120, 64, 75, 68, 221, 91, 251, 137, 115, 23, 228, 120, 135, 219, 170].getD i 0 :=
  aes_step _ (fun i => zKL.getD i 0) _ 2 [218, 234, 234, 153, 117, 86, 239, 81, 88, 93, 195, 21, 90, 218, 36, 75] [107, 120, 64, 75, 68, 221, 91, 251, 137, 115, 23, 228, 120, 135, 219, 170] z_key (by decide) z_r2 (by kernel_rfl)

theorem z_r4 : ∀ i, i < 16 → aesR (kexp fun _ => 0) zB 4 i = [20, 71, 112, 136, 49, 23, 38, 231, 31, 3, 241, 64, 146, 108, 39, 163].getD i 0 :=
  aes_step _ (fun i => zKL.getD i 0) _ 3 [107, 120, 64, 75, 68, 221, 91, 251, 137, 115, 23, 228, 120, 135, 219, 170] [20, 71, 112, 136, 49, 23, 38, 231, 31, 3, 241, 64, 146, 108, 39, 163] z_key (by decide) z_r3 (by kernel_rfl)

theorem z_r5 : ∀ i, i < 16 → aesR (kexp fun _ => 0) zB 5 i = [48, 221, 102, 216, 232, 254, 86, 127, 35, 221, 233, 210, 104, 84, 147, 4].getD i 0 :=
  aes_step _ (fun i => zKL.getD i 0) _ 4 [20, 71, 112, 136, 49, 23, 38, 231, 31, 3, 241, 64, 146, 108, 39, 163] [48, 221, 102, 216, 232, 254, 86, 127, 35, 221, 233, 210, 104, 84, 147, 4] z_key (by decide) z_r4 (by kernel_rfl)

theorem z_r6 : ∀ i, i < 16 → aesR (kexp fun _ => 0) zB 6 i = [222, 216, 197, 211, 220, 57, 47, 229, 84, 30, 4, 241, 188, 21, 162, 105].getD i 0 :=
  aes_step _ (fun i => zKL.getD i 0) _ 5 [48, 221, 102, 216, 232, 254, 86, 127, 35, 221, 233, 210, 104, 84, 147, 4] [222, 216, 197, 211, 220, 57, 47, 229, 84, 30, 4, 241, 188, 21, 162, 105] z_key (by decide) z_r5 (by kernel_rfl)

theorem z_r7 : ∀ i, i < 16 → aesR (kexp fun _ => 0) zB 7 i = [38, 184, 247, 169, 232, 26, 72, 30, 120, 21, 53, 10, 27, 34, 38, 25].getD i 0 :=
  aes_step _ (fun i => zKL.getD i 0) _ 6 [222, 216, 197, 211, 220, 57, 47, 229, 84, 30, 4, 241, 188, 21, 162, 105] [38, 184, 247, 169, 232, 26, 72, 30, 120, 21, 53, 10, 27, 34, 38, 25] z_key (by decide) z_r6 (by kernel_rfl)

theorem z_r8 : ∀ i, i < 16 → aesR (kexp fun _ => 0) zB 8 i = [68, 36, 6, 182, 217, 81, 56, 157, 64, 77, 99, 196, 149, 251, 52, 133].getD i 0 :=
  aes_step _ (fun i => zKL.getD i 0) _ 7 [38, 184, 247, 169, 232, 26, 72, 30, 120, 21, 53, 10, 27, 34, 38, 25] [68, 36, 6, 182, 217, 81, 56, 157, 64, 77, 99, 196, 149, 251, 52, 133] z_key (by decide) z_r7 (by kernel_rfl)

theorem z_r9 : ∀ i, i < 16 → aesR (kexp fun _ => 0) zB 9 i = [131, 247, 93, 208, 136, 243, 141, 226, 47, 131, 137, 25, 89, 53, 127, 54].getD i 0 :=
  aes_step _ (fun i => zKL.getD i 0) _ 8 [68, 36, 6, 182, 217, 81, 56, 157, 64, 77, 99, 196, 149, 251, 52, 133] [131, 247, 93, 208, 136, 243, 141, 226, 47, 131, 137, 25, 89, 53, 127, 54] z_key (by decide) z_r8 (by kernel_rfl)

theorem z_r10 : ∀ i, i < 16 → aesR (kexp fun _ => 0) zB 10 i = [88, 226, 252, 206, 250, 126, 48, 97, 54, 127, 29, 87, 164, 231, 69, 90].getD i 0 :=
  aes_step _ (fun i => zKL.getD i 0) _ 9 [131, 247, 93, 208, 136, 243, 141, 226, 47, 131, 137, 25, 89, 53, 127, 54] [88, 226, 252, 206, 250, 126, 48, 97, 54, 127, 29, 87, 164, 231, 69, 90] z_key (by decide) z_r9 (by kernel_rfl)

theorem mulP_zero (h : P2) : mulP (0, 0) h = (0, 0) := pw_inj (by rw [pw_mul, pw_zero, gm_zero_l])
theorem zeros_fun (n : Nat) : (fun i => ((List.range n).map fun _ => (0 : UInt8)).getD i 0) = fun _ => 0 := funext (zeros_getD n)
theorem z_sealed (K : Nat → UInt8) (h : P2) (hK : K = kexp fun i => ((List.range 16).map fun _ => (0 : UInt8)).getD i 0) (i : Nat) (hi : i < 16) :
    (sealedL K h ((List.range 12).map fun _ => 0) [] []).getD i 0 = ([88, 226, 252, 206, 250, 126, 48, 97, 54, 127, 29, 87, 164, 231, 69, 90] : List UInt8).getD i 0 := by
  subst hK
  rw [zeros_fun]
  have e0 : hidL (kexp fun _ => 0) ((List.range 12).map fun _ => 0) [] = [] := rfl
  unfold sealedL
  rw [e0, List.nil_append]
  have e1 : sealP h [] [] = (0, 0) := (congrArg (fun x => mulP x h) (by kernel_rfl : ((takeP h (takeP h (0, 0) [] (blocks [])) [] (blocks [])).1 ^^^ UInt64.ofNat ([] : List UInt8).length <<< 3, (takeP h (takeP h (0, 0) [] (blocks [])) [] (blocks [])).2 ^^^ UInt64.ofNat ([] : List UInt8).length <<< 3) = ((0, 0) : P2))).trans (mulP_zero h)
  unfold sealL
  rw [strm_at _ _ _ _ hi, e1, Nat.zero_add, ks_head _ _ _ hi, ← z_r10 i hi]
  have e2 : ((List.range 16).map (nbP (0, 0))).getD i 0 = nbP (0, 0) i := cut16 _ hi
  have e3 : nbP (0, 0) i = 0 := by
    have : ((List.range 16).all fun i => nbP (0, 0) i == 0) = true := by kernel_rfl
    exact eq_of_beq (List.all_eq_true.1 this i (List.mem_range.2 hi))
  rw [e2, e3, UInt8.zero_xor]
  refine aesR_congr (fun _ _ => rfl) (fun j hj => ?_) 10 (Nat.le_refl _) i hi
  have : ((List.range 16).all fun i => gctr ((List.range 12).map fun _ => 0) 1 i == zB i) = true := by kernel_rfl
  exact eq_of_beq (List.all_eq_true.1 this j (List.mem_range.2 hj))
theorem sealedL_len (K : Nat → UInt8) (h : P2) (nl al bl : List UInt8) : (sealedL K h nl al bl).length = bl.length + 16 := by
  unfold sealedL; rw [List.length_append, hidL_len, sealL_len]

theorem sealed_calls (w : World) : Ret Try.prog 24 #[] w fun v w' => v = BV true ∧ Chg [] w w' := by
  refine Ret.enter Try.func24 rfl ?_
  simp only [Try.ntmps24, List.size_toArray, List.length_cons, List.length_nil, Nat.reduceAdd, Nat.reduceSub, frame_enter, List.replicate_succ, List.replicate_zero, List.nil_append, List.cons_append]
  have hH := Hp.start [] w
  refine wp_seq_k ?_
  intro K1 hK1
  refine wp_region_text [.p 0] rfl ?_
  refine plan_p rfl rfl pr_assign ?_
  try simp only [n0, n1, n2, n3, getD_cons_zero, getD_cons_succ, set_cons_zero, set_cons_succ, zero_add, add_zero, mul_one, zero_mul, m2, m3, m4]
  refine plan_nil hH ?_
  clear hH
  intro w2 hH
  refine hK1 _ _ ?_
  try clear hK1 K1
  refine wp_seq_k ?_
  intro K3 hK3
  refine wp_region_text [.x 0, .x 1, .p 2, .p 3, .p 4, .p 5, .p 6] rfl ?_
  refine plan_make (n := 16) (c := 16) rfl rfl hH rfl rfl Try.underlying27 sz5 bz5 ze5 rfl (by first | omega | ((simp only [sealedL_len, List.length_map, List.length_range, List.length_nil]; omega))) (by first | omega | ((simp only [sealedL_len, List.length_map, List.length_range, List.length_nil]; omega))) (by first | omega | ((simp only [sealedL_len, List.length_map, List.length_range, List.length_nil]; omega))) ?_
  clear hH
  intro b4 w5 hH
  try simp only [n0, n1, n2, n3, getD_cons_zero, getD_cons_succ, set_cons_zero, set_cons_succ, zero_add, add_zero, mul_one, zero_mul, m2, m3, m4] at hH ⊢
  rw [made_arr8] at hH
  try simp only [n0, n1, n2, n3, getD_cons_zero, getD_cons_succ, set_cons_zero, set_cons_succ, zero_add, add_zero, mul_one, zero_mul, m2, m3, m4, m5, m6, m7, Value.cells, arr8_set, arr32_set, arr64_set, arrB_set] at hH ⊢
  refine plan_callx rfl rfl hH cf23 (fun w' hH => gnew_calls _ _ w' (OwnC.sl hH 0 rfl OwnC.made) (by simp)) rfl (fun _ _ _ h => by obtain ⟨_, _, _, hg, _⟩ := h; exact hg) ?_
  clear hH
  intro w6 v7 w8 hH hp9
  obtain ⟨b10, b11, rfl, hg, hfc, hbc, hfx, hbx, hne⟩ := hp9
  replace hH := hH.callnew2 hg hbc hfc hbx hfx hne
  clear hg hfc hbc hfx hbx hne
  try simp only [n0, n1, n2, n3, getD_cons_zero, getD_cons_succ, set_cons_zero, set_cons_succ, zero_add, add_zero, mul_one, zero_mul, m2, m3, m4, m5, m6, m7, Value.cells, arr8_set, arr32_set, arr64_set, arrB_set] at hH ⊢
  try simp only [n0, n1, n2, n3, getD_cons_zero, getD_cons_succ, set_cons_zero, set_cons_succ, zero_add, add_zero, mul_one, zero_mul, m2, m3, m4]
  refine plan_p rfl rfl pr_move ?_
  try simp only [n0, n1, n2, n3, getD_cons_zero, getD_cons_succ, set_cons_zero, set_cons_succ, zero_add, add_zero, mul_one, zero_mul, m2, m3, m4]
  refine plan_p rfl rfl (pr_extract rfl rfl) ?_
  try simp only [n0, n1, n2, n3, getD_cons_zero, getD_cons_succ, set_cons_zero, set_cons_succ, zero_add, add_zero, mul_one, zero_mul, m2, m3, m4]
  refine plan_p rfl rfl (pr_extract rfl rfl) ?_
  try simp only [n0, n1, n2, n3, getD_cons_zero, getD_cons_succ, set_cons_zero, set_cons_succ, zero_add, add_zero, mul_one, zero_mul, m2, m3, m4]
  refine plan_p rfl rfl pr_assign ?_
  try simp only [n0, n1, n2, n3, getD_cons_zero, getD_cons_succ, set_cons_zero, set_cons_succ, zero_add, add_zero, mul_one, zero_mul, m2, m3, m4]
  refine plan_p rfl rfl pr_assign ?_
  try simp only [n0, n1, n2, n3, getD_cons_zero, getD_cons_succ, set_cons_zero, set_cons_succ, zero_add, add_zero, mul_one, zero_mul, m2, m3, m4]
  refine plan_nil hH ?_
  clear hH
  intro w12 hH
  refine hK3 _ _ ?_
  try clear hK3 K3
  refine wp_seq_k ?_
  intro K13 hK13
  refine wp_seq_k ?_
  intro K14 hK14
  refine wp_region_text [.p 0, .p 1] rfl ?_
  refine plan_p rfl rfl pr_move ?_
  try simp only [n0, n1, n2, n3, getD_cons_zero, getD_cons_succ, set_cons_zero, set_cons_succ, zero_add, add_zero, mul_one, zero_mul, m2, m3, m4]
  refine plan_p rfl rfl (pr_bin rfl rfl (by first | exact bin_neq_n (n := 0)  | exact bin_neq_i)) ?_
  try simp only [n0, n1, n2, n3, getD_cons_zero, getD_cons_succ, set_cons_zero, set_cons_succ, zero_add, add_zero, mul_one, zero_mul, m2, m3, m4]
  refine plan_nil hH ?_
  clear hH
  intro w15 hH
  refine hK14 _ _ ?_
  try clear hK14 K14
  refine wp_cond_false rfl ?_
  refine wp_skip ?_
  refine hK13 _ _ ?_
  try clear hK13 K13
  refine wp_seq_k ?_
  intro K16 hK16
  refine wp_region_text [.p 0, .x 1, .x 2, .p 3, .p 4, .p 5, .p 6, .p 7] rfl ?_
  refine plan_p rfl rfl pr_move ?_
  try simp only [n0, n1, n2, n3, getD_cons_zero, getD_cons_succ, set_cons_zero, set_cons_succ, zero_add, add_zero, mul_one, zero_mul, m2, m3, m4]
  refine plan_make (n := 12) (c := 12) rfl rfl hH rfl rfl Try.underlying27 sz5 bz5 ze5 rfl (by first | omega | ((simp only [sealedL_len, List.length_map, List.length_range, List.length_nil]; omega))) (by first | omega | ((simp only [sealedL_len, List.length_map, List.length_range, List.length_nil]; omega))) (by first | omega | ((simp only [sealedL_len, List.length_map, List.length_range, List.length_nil]; omega))) ?_
  clear hH
  intro b17 w18 hH
  try simp only [n0, n1, n2, n3, getD_cons_zero, getD_cons_succ, set_cons_zero, set_cons_succ, zero_add, add_zero, mul_one, zero_mul, m2, m3, m4] at hH ⊢
  rw [made_arr8] at hH
  try simp only [n0, n1, n2, n3, getD_cons_zero, getD_cons_succ, set_cons_zero, set_cons_succ, zero_add, add_zero, mul_one, zero_mul, m2, m3, m4, m5, m6, m7, Value.cells, arr8_set, arr32_set, arr64_set, arrB_set] at hH ⊢
  refine plan_callx rfl rfl hH cf26 (fun w' hH => Seal_calls _ _ _ (hP _) _ _ _ _ _ _ w' (hH.blk 2 rfl) (hH.blk 1 rfl) (OwnC.sl hH 3 rfl OwnC.made) (by simp) Sl.nil Sl.nil (by simp)) rfl (fun _ _ _ h => by obtain ⟨_, _, _, _, hg, _⟩ := h; exact hg) ?_
  clear hH
  intro w19 v20 w21 hH hp22
  obtain ⟨o23, cap24, cs25, rfl, hg, hO26, hfr⟩ := hp22
  replace hH := hH.callown hg hfr
  clear hg hfr
  try simp only [n0, n1, n2, n3, getD_cons_zero, getD_cons_succ, set_cons_zero, set_cons_succ, zero_add, add_zero, mul_one, zero_mul, m2, m3, m4, m5, m6, m7, Value.cells, arr8_set, arr32_set, arr64_set, arrB_set] at hH ⊢
  try simp only [n0, n1, n2, n3, getD_cons_zero, getD_cons_succ, set_cons_zero, set_cons_succ, zero_add, add_zero, mul_one, zero_mul, m2, m3, m4]
  refine plan_p rfl rfl pr_move ?_
  try simp only [n0, n1, n2, n3, getD_cons_zero, getD_cons_succ, set_cons_zero, set_cons_succ, zero_add, add_zero, mul_one, zero_mul, m2, m3, m4]
  refine plan_p rfl rfl (pr_extract rfl rfl) ?_
  try simp only [n0, n1, n2, n3, getD_cons_zero, getD_cons_succ, set_cons_zero, set_cons_succ, zero_add, add_zero, mul_one, zero_mul, m2, m3, m4]
  refine plan_p rfl rfl (pr_extract rfl rfl) ?_
  try simp only [n0, n1, n2, n3, getD_cons_zero, getD_cons_succ, set_cons_zero, set_cons_succ, zero_add, add_zero, mul_one, zero_mul, m2, m3, m4]
  refine plan_p rfl rfl pr_assign ?_
  try simp only [n0, n1, n2, n3, getD_cons_zero, getD_cons_succ, set_cons_zero, set_cons_succ, zero_add, add_zero, mul_one, zero_mul, m2, m3, m4]
  refine plan_p rfl rfl pr_assign ?_
  try simp only [n0, n1, n2, n3, getD_cons_zero, getD_cons_succ, set_cons_zero, set_cons_succ, zero_add, add_zero, mul_one, zero_mul, m2, m3, m4]
  refine plan_nil hH ?_
  clear hH
  intro w27 hH
  refine hK16 _ _ ?_
  try clear hK16 K16
  refine wp_seq_k ?_
  intro K28 hK28
  refine wp_region_text [.p 0, .p 1, .p 2, .p 3, .p 4, .p 5, .p 6, .p 7, .p 8, .p 9, .q 10, .p 11, .p 12, .p 13, .p 14, .p 15, .q 16, .p 17, .p 18, .p 19] rfl ?_
  refine plan_p rfl rfl pr_move ?_
  try simp only [n0, n1, n2, n3, getD_cons_zero, getD_cons_succ, set_cons_zero, set_cons_succ, zero_add, add_zero, mul_one, zero_mul, m2, m3, m4]
  refine plan_p rfl rfl (pr_bin rfl rfl (by first | exact bin_eql_n (n := 0)  | exact bin_eql_i)) ?_
  try simp only [n0, n1, n2, n3, getD_cons_zero, getD_cons_succ, set_cons_zero, set_cons_succ, zero_add, add_zero, mul_one, zero_mul, m2, m3, m4]
  refine plan_p (v := BV true) rfl rfl (pr_move_v rfl) ?_
  try simp only [n0, n1, n2, n3, getD_cons_zero, getD_cons_succ, set_cons_zero, set_cons_succ, zero_add, add_zero, mul_one, zero_mul, m2, m3, m4]
  refine plan_p rfl rfl pr_move ?_
  try simp only [n0, n1, n2, n3, getD_cons_zero, getD_cons_succ, set_cons_zero, set_cons_succ, zero_add, add_zero, mul_one, zero_mul, m2, m3, m4]
  refine plan_p rfl rfl (pr_len_sl rfl Try.underlying27) ?_
  try simp only [n0, n1, n2, n3, getD_cons_zero, getD_cons_succ, set_cons_zero, set_cons_succ, zero_add, add_zero, mul_one, zero_mul, m2, m3, m4]
  refine plan_p rfl rfl (pr_bin rfl rfl (by first | exact bin_eql_n (n := 16)  | exact bin_eql_i)) ?_
  try simp only [n0, n1, n2, n3, getD_cons_zero, getD_cons_succ, set_cons_zero, set_cons_succ, zero_add, add_zero, mul_one, zero_mul, m2, m3, m4]
  refine plan_p rfl rfl (pr_pick_t rfl) ?_
  try simp only [n0, n1, n2, n3, getD_cons_zero, getD_cons_succ, set_cons_zero, set_cons_succ, zero_add, add_zero, mul_one, zero_mul, m2, m3, m4]
  refine plan_p (v := BV true) rfl rfl (pr_move_v rfl) ?_
  try simp only [n0, n1, n2, n3, getD_cons_zero, getD_cons_succ, set_cons_zero, set_cons_succ, zero_add, add_zero, mul_one, zero_mul, m2, m3, m4]
  refine plan_p rfl rfl pr_move ?_
  try simp only [n0, n1, n2, n3, getD_cons_zero, getD_cons_succ, set_cons_zero, set_cons_succ, zero_add, add_zero, mul_one, zero_mul, m2, m3, m4]
  refine plan_p rfl rfl (pr_idx_Sl (i := 0) (OwnC.sl hH 4 rfl hO26) rfl rfl Try.underlying27 sz5 (by first | omega | ((simp only [sealedL_len, List.length_map, List.length_range, List.length_nil]; omega)))) ?_
  try simp only [n0, n1, n2, n3, getD_cons_zero, getD_cons_succ, set_cons_zero, set_cons_succ, zero_add, add_zero, mul_one, zero_mul, m2, m3, m4]
  refine plan_q rfl rfl (qr_load1 rfl Try.underlying5 rfl (Sl.cell (i := 0) (OwnC.sl hH 4 rfl hO26) (by first | omega | ((simp only [sealedL_len, List.length_map, List.length_range, List.length_nil]; omega))))) ?_
  try simp only [n0, n1, n2, n3, getD_cons_zero, getD_cons_succ, set_cons_zero, set_cons_succ, zero_add, add_zero, mul_one, zero_mul, m2, m3, m4]
  refine plan_p rfl rfl (pr_bin rfl rfl (bin_eql_u8 _ 88)) ?_
  try simp only [n0, n1, n2, n3, getD_cons_zero, getD_cons_succ, set_cons_zero, set_cons_succ, zero_add, add_zero, mul_one, zero_mul, m2, m3, m4]
  refine plan_p rfl rfl (pr_pick_t rfl) ?_
  try simp only [n0, n1, n2, n3, getD_cons_zero, getD_cons_succ, set_cons_zero, set_cons_succ, zero_add, add_zero, mul_one, zero_mul, m2, m3, m4]
  refine plan_p (v := BV true) rfl rfl (pr_move_v (by show BV (_ == 88) = _; rw [z_sealed _ _ rfl 0 (by decide)]; rfl)) ?_
  try simp only [n0, n1, n2, n3, getD_cons_zero, getD_cons_succ, set_cons_zero, set_cons_succ, zero_add, add_zero, mul_one, zero_mul, m2, m3, m4]
  refine plan_p rfl rfl pr_move ?_
  try simp only [n0, n1, n2, n3, getD_cons_zero, getD_cons_succ, set_cons_zero, set_cons_succ, zero_add, add_zero, mul_one, zero_mul, m2, m3, m4]
  refine plan_p rfl rfl (pr_idx_Sl (i := 15) (OwnC.sl hH 4 rfl hO26) rfl rfl Try.underlying27 sz5 (by first | omega | ((simp only [sealedL_len, List.length_map, List.length_range, List.length_nil]; omega)))) ?_
  try simp only [n0, n1, n2, n3, getD_cons_zero, getD_cons_succ, set_cons_zero, set_cons_succ, zero_add, add_zero, mul_one, zero_mul, m2, m3, m4]
  refine plan_q rfl rfl (qr_load1 rfl Try.underlying5 rfl (Sl.cell (i := 15) (OwnC.sl hH 4 rfl hO26) (by first | omega | ((simp only [sealedL_len, List.length_map, List.length_range, List.length_nil]; omega))))) ?_
  try simp only [n0, n1, n2, n3, getD_cons_zero, getD_cons_succ, set_cons_zero, set_cons_succ, zero_add, add_zero, mul_one, zero_mul, m2, m3, m4]
  refine plan_p rfl rfl (pr_bin rfl rfl (bin_eql_u8 _ 90)) ?_
  try simp only [n0, n1, n2, n3, getD_cons_zero, getD_cons_succ, set_cons_zero, set_cons_succ, zero_add, add_zero, mul_one, zero_mul, m2, m3, m4]
  refine plan_p rfl rfl (pr_pick_t rfl) ?_
  try simp only [n0, n1, n2, n3, getD_cons_zero, getD_cons_succ, set_cons_zero, set_cons_succ, zero_add, add_zero, mul_one, zero_mul, m2, m3, m4]
  refine plan_p rfl rfl pr_assign ?_
  try simp only [n0, n1, n2, n3, getD_cons_zero, getD_cons_succ, set_cons_zero, set_cons_succ, zero_add, add_zero, mul_one, zero_mul, m2, m3, m4]
  refine plan_nil hH ?_
  clear hH
  intro w29 hH
  refine hK28 _ _ ?_
  try clear hK28 K28
  refine wp_ret ?_
  try simp only [Exit.then, Exit.inBlock, ↓reduceIte, Nat.reduceEqDiff]
  refine BP.ret1 rfl rfl ?_
  exact ⟨(by show BV (_ == 90) = _; rw [z_sealed _ _ rfl 15 (by decide)]; rfl), hH.chg⟩

theorem none4_calls (w : World) : Ret Try.prog 29 #[] w fun v w' => v = .pointer none ∧ Chg [] w w' := by
  refine Ret.enter Try.func29 rfl ?_
  simp only [Try.ntmps29, List.size_toArray, List.length_cons, List.length_nil, Nat.reduceAdd, Nat.reduceSub, frame_enter, List.replicate_succ, List.replicate_zero, List.nil_append, List.cons_append]
  have hH := Hp.start [] w
  refine wp_seq_k ?_
  intro K1 hK1
  refine wp_region_text [.p 0] rfl ?_
  refine plan_p rfl rfl pr_assign ?_
  try simp only [n0, n1, n2, n3, getD_cons_zero, getD_cons_succ, set_cons_zero, set_cons_succ, zero_add, add_zero, mul_one, zero_mul, m2, m3, m4]
  refine plan_nil hH ?_
  clear hH
  intro w2 hH
  refine hK1 _ _ ?_
  try clear hK1 K1
  refine wp_seq_k ?_
  intro K3 hK3
  refine wp_region_text [.p 0] rfl ?_
  refine plan_p rfl rfl pr_assign ?_
  try simp only [n0, n1, n2, n3, getD_cons_zero, getD_cons_succ, set_cons_zero, set_cons_succ, zero_add, add_zero, mul_one, zero_mul, m2, m3, m4]
  refine plan_nil hH ?_
  clear hH
  intro w4 hH
  refine hK3 _ _ ?_
  try clear hK3 K3
  refine wp_ret ?_
  try simp only [Exit.then, Exit.inBlock, ↓reduceIte, Nat.reduceEqDiff]
  refine BP.ret1 rfl rfl ?_
  exact ⟨rfl, hH.chg⟩

theorem cut_calls (v : Value) (l : List UInt8) (w : World) (hv : Sl w v l) : Ret Try.prog 25 #[v] w fun v' w' => v' = slcut v 0 (min l.length 120) ∧ Chg [] w w' := by
  refine Ret.enter Try.func25 rfl ?_
  simp only [Try.ntmps25, List.size_toArray, List.length_cons, List.length_nil, Nat.reduceAdd, Nat.reduceSub, frame_enter, List.replicate_succ, List.replicate_zero, List.nil_append, List.cons_append]
  have hH := Hp.start [] w
  refine wp_seq_k ?_
  intro K1 hK1
  refine wp_region_text [.p 0] rfl ?_
  refine plan_p rfl rfl pr_assign ?_
  try simp only [n0, n1, n2, n3, getD_cons_zero, getD_cons_succ, set_cons_zero, set_cons_succ, zero_add, add_zero, mul_one, zero_mul, m2, m3, m4]
  refine plan_nil hH ?_
  clear hH
  intro w2 hH
  refine hK1 _ _ ?_
  try clear hK1 K1
  refine wp_seq_k ?_
  intro K3 hK3
  refine wp_region_text [.p 0, .p 1, .p 2, .p 3, .p 4, .p 5] rfl ?_
  refine plan_p rfl rfl pr_move ?_
  try simp only [n0, n1, n2, n3, getD_cons_zero, getD_cons_succ, set_cons_zero, set_cons_succ, zero_add, add_zero, mul_one, zero_mul, m2, m3, m4]
  refine plan_p rfl rfl pr_move ?_
  try simp only [n0, n1, n2, n3, getD_cons_zero, getD_cons_succ, set_cons_zero, set_cons_succ, zero_add, add_zero, mul_one, zero_mul, m2, m3, m4]
  refine plan_p rfl rfl (pr_len_Sl (hv.chg hH.chg) rfl Try.underlying27) ?_
  try simp only [n0, n1, n2, n3, getD_cons_zero, getD_cons_succ, set_cons_zero, set_cons_succ, zero_add, add_zero, mul_one, zero_mul, m2, m3, m4]
  refine plan_p rfl rfl (by first | exact pr_min_n (n := 120) rfl rfl | exact pr_min rfl rfl) ?_
  try simp only [n0, n1, n2, n3, getD_cons_zero, getD_cons_succ, set_cons_zero, set_cons_succ, zero_add, add_zero, mul_one, zero_mul, m2, m3, m4]
  refine plan_p rfl rfl (pr_slice_Sl_h (hv.chg hH.chg) rfl rfl Try.underlying27 sz5 (by omega)) ?_
  try simp only [n0, n1, n2, n3, getD_cons_zero, getD_cons_succ, set_cons_zero, set_cons_succ, zero_add, add_zero, mul_one, zero_mul, m2, m3, m4]
  refine plan_p rfl rfl pr_assign ?_
  try simp only [n0, n1, n2, n3, getD_cons_zero, getD_cons_succ, set_cons_zero, set_cons_succ, zero_add, add_zero, mul_one, zero_mul, m2, m3, m4]
  refine plan_nil hH ?_
  clear hH
  intro w4 hH
  refine hK3 _ _ ?_
  try clear hK3 K3
  refine wp_ret ?_
  try simp only [Exit.then, Exit.inBlock, ↓reduceIte, Nat.reduceEqDiff]
  refine BP.ret1 rfl rfl ?_
  exact ⟨rfl, hH.chg⟩

theorem mulP_comm (a b : P2) : mulP a b = mulP b a := pw_inj (by rw [pw_mul, pw_mul, gm_comm (pw_lt a) (pw_lt b)])
theorem mulP_assoc (a b c : P2) : mulP (mulP a b) c = mulP a (mulP b c) := pw_inj (by rw [pw_mul, pw_mul, pw_mul, pw_mul, gm_assoc (pw_lt a) (pw_lt b) (pw_lt c)])
theorem mulP_xor (a b c : P2) : mulP a (b.1 ^^^ c.1, b.2 ^^^ c.2) = ((mulP a b).1 ^^^ (mulP a c).1, (mulP a b).2 ^^^ (mulP a c).2) := pw_inj (by rw [pw_mul, pw_xor, pw_xor, pw_mul, pw_mul, gm_xor_r])
theorem of_xor (f g : Nat → UInt8) : ofP (fun j => f j ^^^ g j) = ((ofP f).1 ^^^ (ofP g).1, (ofP f).2 ^^^ (ofP g).2) :=
  (ofP_congr fun j hj => by rw [nb_xor _ _ j hj, nb_of f j hj, nb_of g j hj]).trans (of_nb _)
theorem times_doc (f g : Nat → UInt8) : (List.range 16).map (fun i => nbP (mulP (ofP f) (ofP g)) i) = (strP (mulP (ofP fun i => ((List.range 16).map f).getD i 0) (ofP fun i => ((List.range 16).map g).getD i 0))).data.toList := by
  rw [ofP_congr fun i hi => cut16 f hi, ofP_congr fun i hi => cut16 g hi]; rfl
theorem all_beq {f g : Nat → UInt8} (h : ∀ i, i < 16 → f i = g i) : ((List.range 16).all fun i => f i == g i) = true := by
  rw [List.all_eq_true]
  intro i hi
  rw [beq_iff_eq]; exact h i (List.mem_range.1 hi)

theorem gcmtimes_calls (f g h : Nat → UInt8) (w : World) : Ret Try.prog 10 #[.agg (arr8 16 f), .agg (arr8 16 g), .agg (arr8 16 h)] w fun v w' => v = BV true ∧ Chg [] w w' := by
  refine Ret.enter Try.func10 rfl ?_
  simp only [Try.ntmps10, List.size_toArray, List.length_cons, List.length_nil, Nat.reduceAdd, Nat.reduceSub, frame_enter, List.replicate_succ, List.replicate_zero, List.nil_append, List.cons_append]
  have hH := Hp.start [] w
  refine wp_seq_k ?_
  intro K1 hK1
  refine wp_region_text [.x 0, .x 1, .x 2, .p 3] rfl ?_
  refine plan_box rfl rfl hH rfl ?_
  clear hH
  intro b2 w3 hH
  try simp only [n0, n1, n2, n3, getD_cons_zero, getD_cons_succ, set_cons_zero, set_cons_succ, zero_add, add_zero, mul_one, zero_mul, m2, m3, m4, m5, m6, m7, Value.cells, arr8_set, arr32_set, arr64_set, arrB_set] at hH ⊢
  refine plan_box rfl rfl hH rfl ?_
  clear hH
  intro b4 w5 hH
  try simp only [n0, n1, n2, n3, getD_cons_zero, getD_cons_succ, set_cons_zero, set_cons_succ, zero_add, add_zero, mul_one, zero_mul, m2, m3, m4, m5, m6, m7, Value.cells, arr8_set, arr32_set, arr64_set, arrB_set] at hH ⊢
  refine plan_box rfl rfl hH rfl ?_
  clear hH
  intro b6 w7 hH
  try simp only [n0, n1, n2, n3, getD_cons_zero, getD_cons_succ, set_cons_zero, set_cons_succ, zero_add, add_zero, mul_one, zero_mul, m2, m3, m4, m5, m6, m7, Value.cells, arr8_set, arr32_set, arr64_set, arrB_set] at hH ⊢
  refine plan_p rfl rfl pr_assign ?_
  try simp only [n0, n1, n2, n3, getD_cons_zero, getD_cons_succ, set_cons_zero, set_cons_succ, zero_add, add_zero, mul_one, zero_mul, m2, m3, m4]
  refine plan_nil hH ?_
  clear hH
  intro w8 hH
  refine hK1 _ _ ?_
  try clear hK1 K1
  refine wp_seq_k ?_
  intro K9 hK9
  refine wp_region_text [.q 0, .q 1, .q 2, .x 3, .e 4] rfl ?_
  refine plan_q rfl rfl (qr_loadW rfl (hH.blk 0 rfl) Try.underlying22 rfl sz22 (by simp)) ?_
  try simp only [n0, n1, n2, n3, getD_cons_zero, getD_cons_succ, set_cons_zero, set_cons_succ, zero_add, add_zero, mul_one, zero_mul, m2, m3, m4]
  refine plan_q rfl rfl (qr_loadW rfl (hH.blk 1 rfl) Try.underlying22 rfl sz22 (by simp)) ?_
  try simp only [n0, n1, n2, n3, getD_cons_zero, getD_cons_succ, set_cons_zero, set_cons_succ, zero_add, add_zero, mul_one, zero_mul, m2, m3, m4]
  refine plan_q rfl rfl (qr_call cf27 (fun w' hw => gTimes_calls _ _ w') rfl) ?_
  try simp only [n0, n1, n2, n3, getD_cons_zero, getD_cons_succ, set_cons_zero, set_cons_succ, zero_add, add_zero, mul_one, zero_mul, m2, m3, m4]
  refine plan_alloc rfl rfl hH zc22 ?_
  clear hH
  intro b10 w11 hH
  try simp only [n0, n1, n2, n3, getD_cons_zero, getD_cons_succ, set_cons_zero, set_cons_succ, zero_add, add_zero, mul_one, zero_mul, m2, m3, m4, m5, m6, m7, Value.cells, arr8_set, arr32_set, arr64_set, arrB_set] at hH ⊢
  refine plan_storeW 3 rfl rfl hH rfl rfl rfl one_arr8 sz22 (by simp) (by simp) ?_
  clear hH
  intro w12 hH
  try simp only [n0, n1, n2, n3, getD_cons_zero, getD_cons_succ, set_cons_zero, set_cons_succ, zero_add, add_zero, mul_one, zero_mul, m2, m3, m4, m5, m6, m7, Value.cells, arr8_set, arr32_set, arr64_set, arrB_set] at hH ⊢
  refine plan_nil hH ?_
  clear hH
  intro w13 hH
  refine hK9 _ _ ?_
  try clear hK9 K9
  refine wp_seq_k ?_
  intro K14 hK14
  refine wp_region_text [.q 0, .q 1, .q 2, .x 3, .e 4] rfl ?_
  refine plan_q rfl rfl (qr_loadW rfl (hH.blk 0 rfl) Try.underlying22 rfl sz22 (by simp)) ?_
  try simp only [n0, n1, n2, n3, getD_cons_zero, getD_cons_succ, set_cons_zero, set_cons_succ, zero_add, add_zero, mul_one, zero_mul, m2, m3, m4]
  refine plan_q rfl rfl (qr_loadW rfl (hH.blk 2 rfl) Try.underlying22 rfl sz22 (by simp)) ?_
  try simp only [n0, n1, n2, n3, getD_cons_zero, getD_cons_succ, set_cons_zero, set_cons_succ, zero_add, add_zero, mul_one, zero_mul, m2, m3, m4]
  refine plan_q rfl rfl (qr_call cf27 (fun w' hw => gTimes_calls _ _ w') rfl) ?_
  try simp only [n0, n1, n2, n3, getD_cons_zero, getD_cons_succ, set_cons_zero, set_cons_succ, zero_add, add_zero, mul_one, zero_mul, m2, m3, m4]
  refine plan_alloc rfl rfl hH zc22 ?_
  clear hH
  intro b15 w16 hH
  try simp only [n0, n1, n2, n3, getD_cons_zero, getD_cons_succ, set_cons_zero, set_cons_succ, zero_add, add_zero, mul_one, zero_mul, m2, m3, m4, m5, m6, m7, Value.cells, arr8_set, arr32_set, arr64_set, arrB_set] at hH ⊢
  refine plan_storeW 4 rfl rfl hH rfl rfl rfl one_arr8 sz22 (by simp) (by simp) ?_
  clear hH
  intro w17 hH
  try simp only [n0, n1, n2, n3, getD_cons_zero, getD_cons_succ, set_cons_zero, set_cons_succ, zero_add, add_zero, mul_one, zero_mul, m2, m3, m4, m5, m6, m7, Value.cells, arr8_set, arr32_set, arr64_set, arrB_set] at hH ⊢
  refine plan_nil hH ?_
  clear hH
  intro w18 hH
  refine hK14 _ _ ?_
  try clear hK14 K14
  refine wp_seq_k ?_
  intro K19 hK19
  refine wp_region_text [.x 0, .x 1] rfl ?_
  refine plan_alloc rfl rfl hH zc22 ?_
  clear hH
  intro b20 w21 hH
  try simp only [n0, n1, n2, n3, getD_cons_zero, getD_cons_succ, set_cons_zero, set_cons_succ, zero_add, add_zero, mul_one, zero_mul, m2, m3, m4, m5, m6, m7, Value.cells, arr8_set, arr32_set, arr64_set, arrB_set] at hH ⊢
  refine plan_alloc rfl rfl hH zc22 ?_
  clear hH
  intro b22 w23 hH
  try simp only [n0, n1, n2, n3, getD_cons_zero, getD_cons_succ, set_cons_zero, set_cons_succ, zero_add, add_zero, mul_one, zero_mul, m2, m3, m4, m5, m6, m7, Value.cells, arr8_set, arr32_set, arr64_set, arrB_set] at hH ⊢
  refine plan_nil hH ?_
  clear hH
  intro w24 hH
  refine hK19 _ _ ?_
  try clear hK19 K19
  refine wp_seq_k ?_
  intro K25 hK25
  refine wp_seq_k ?_
  intro K26 hK26
  refine wp_region_text [.p 0] rfl ?_
  refine plan_p rfl rfl (pr_aconst_n 0 rfl) ?_
  try simp only [n0, n1, n2, n3, getD_cons_zero, getD_cons_succ, set_cons_zero, set_cons_succ, zero_add, add_zero, mul_one, zero_mul, m2, m3, m4]
  refine plan_nil hH ?_
  clear hH
  intro w27 hH
  refine hK26 _ _ ?_
  try clear hK26 K26
  refine wp_block ?_
  obtain ⟨kc28, hkc29, hN⟩ := hH.name 0 rfl
  replace hH := hN; clear hN; simp only [List.set_cons_zero, List.set_cons_succ] at hH
  obtain ⟨kc30, hkc31, hN⟩ := hH.name 1 rfl
  replace hH := hN; clear hN; simp only [List.set_cons_zero, List.set_cons_succ] at hH
  obtain ⟨kc32, hkc33, hN⟩ := hH.name 2 rfl
  replace hH := hN; clear hN; simp only [List.set_cons_zero, List.set_cons_succ] at hH
  obtain ⟨kc34, hkc35, hN⟩ := hH.name 3 rfl
  replace hH := hN; clear hN; simp only [List.set_cons_zero, List.set_cons_succ] at hH
  obtain ⟨kc36, hkc37, hN⟩ := hH.name 4 rfl
  replace hH := hN; clear hN; simp only [List.set_cons_zero, List.set_cons_succ] at hH
  refine wp_loopT [11] [18, 19, 20, 21, 22, 23, 24, 25, 26, 27, 28, 29, 30, 31, 32, 33, 34, 35, 36, 37, 38, 39] (fun (n38 : Nat) (vs : List Value) (w' : World) => ∃ (i : Nat), vs = [I64 (i : Nat)] ∧ Hp [] w w' [(some b2, 22, kc28), (some b4, 22, kc30), (some b6, 22, kc32), (some b10, 22, kc34), (some b15, 22, kc36), (some b20, 22, arr8 16 fun j => if j < i then g j ^^^ h j else 0), (some b22, 22, arr8 16 fun j => if j < i then nbP (mulP (ofP f) (ofP g)) j ^^^ nbP (mulP (ofP f) (ofP h)) j else 0)] ∧ n38 = 16 - i ∧ i ≤ 16) (16 - 0) (by kernel_rfl) ?_ ?_
  ·
    simp only [getAll, List.map_cons, List.map_nil, getD_cons_zero, getD_cons_succ]
    refine ⟨0, rfl, ?_, rfl, ?_⟩
    ·
      exact (hH.say 5 rfl (arr8_congr fun j hj => by rw [if_neg (by omega)])).say 6 rfl (arr8_congr fun j hj => by rw [if_neg (by omega)])
    · first | omega | (omega)
  clear hH
  intro n38 vs39 w40 hR41 d0
  obtain ⟨i, rfl, hH, hn42, hf43⟩ := hR41
  simp only [putAll, putD, List.set_cons_zero, List.set_cons_succ, Nat.zero_add, Nat.reduceAdd]
  subst hkc29 hkc31 hkc33 hkc35 hkc37
  refine wp_seq_k ?_
  intro K44 hK44
  refine wp_seq_k ?_
  intro K45 hK45
  refine wp_region_text [.p 0, .p 1] rfl ?_
  refine plan_p rfl rfl pr_move ?_
  try simp only [n0, n1, n2, n3, getD_cons_zero, getD_cons_succ, set_cons_zero, set_cons_succ, zero_add, add_zero, mul_one, zero_mul, m2, m3, m4]
  refine plan_p rfl rfl (pr_bin rfl rfl (by first | exact bin_lss_n (n := 16)  | exact bin_lss_i)) ?_
  try simp only [n0, n1, n2, n3, getD_cons_zero, getD_cons_succ, set_cons_zero, set_cons_succ, zero_add, add_zero, mul_one, zero_mul, m2, m3, m4]
  refine plan_nil hH ?_
  clear hH
  intro w46 hH
  refine hK45 _ _ ?_
  try clear hK45 K45
  refine wp_cond_split rfl (fun hc47 => ?_) (fun hc47 => ?_)
  ·
    try simp only [decide_eq_true_eq, decide_eq_false_iff_not, beq_iff_eq, bne_iff_ne, beq_eq_false_iff_ne, ne_eq, Bool.not_eq_true', Bool.not_eq_false', bne_eq_false_iff_eq, Nat.not_lt, Nat.not_le, gt_iff_lt, ge_iff_le] at hc47
    refine wp_skip ?_
    refine hK44 _ _ ?_
    try clear hK44 K44
    refine wp_seq_k ?_
    intro K48 hK48
    refine wp_block ?_
    refine wp_region_planR (Chg [b20, b22]) (Far.chg _) [.p 0, .p 1, .p 2, .p 3, .p 5, .p 6, .p 9, .p 10, .p 12, .p 13, .r 4 (Chg [b20, b22]), .r 7 (Chg [b20, b22]), .p 8, .p 16, .r 11 (Chg [b20, b22]), .r 14 (Chg [b20, b22]), .p 15, .s 17 (Chg [b20, b22]), .p 18, .s 19 (Chg [b20, b22])] (by simp [AllR]) (by kernel_rfl) (by kernel_rfl) (by kernel_rfl) (by kernel_rfl) (fun _ _ _ _ _ h => by first | exact h | exact BP.panic _ _ _ _ _ h) ?_
    refine plan_p rfl rfl pr_move ?_
    try simp only [n0, n1, n2, n3, getD_cons_zero, getD_cons_succ, set_cons_zero, set_cons_succ, zero_add, add_zero, mul_one, zero_mul, m2, m3, m4]
    refine plan_p rfl rfl pr_move ?_
    try simp only [n0, n1, n2, n3, getD_cons_zero, getD_cons_succ, set_cons_zero, set_cons_succ, zero_add, add_zero, mul_one, zero_mul, m2, m3, m4]
    refine plan_p rfl rfl pr_move ?_
    try simp only [n0, n1, n2, n3, getD_cons_zero, getD_cons_succ, set_cons_zero, set_cons_succ, zero_add, add_zero, mul_one, zero_mul, m2, m3, m4]
    refine plan_p rfl rfl (pr_idxA1 rfl rfl Try.underlying22 sz5 (by omega)) ?_
    try simp only [n0, n1, n2, n3, getD_cons_zero, getD_cons_succ, set_cons_zero, set_cons_succ, zero_add, add_zero, mul_one, zero_mul, m2, m3, m4]
    refine plan_p rfl rfl pr_move ?_
    try simp only [n0, n1, n2, n3, getD_cons_zero, getD_cons_succ, set_cons_zero, set_cons_succ, zero_add, add_zero, mul_one, zero_mul, m2, m3, m4]
    refine plan_p rfl rfl (pr_idxA1 rfl rfl Try.underlying22 sz5 (by omega)) ?_
    try simp only [n0, n1, n2, n3, getD_cons_zero, getD_cons_succ, set_cons_zero, set_cons_succ, zero_add, add_zero, mul_one, zero_mul, m2, m3, m4]
    refine plan_p rfl rfl pr_move ?_
    try simp only [n0, n1, n2, n3, getD_cons_zero, getD_cons_succ, set_cons_zero, set_cons_succ, zero_add, add_zero, mul_one, zero_mul, m2, m3, m4]
    refine plan_p rfl rfl (pr_idxA1 rfl rfl Try.underlying22 sz5 (by omega)) ?_
    try simp only [n0, n1, n2, n3, getD_cons_zero, getD_cons_succ, set_cons_zero, set_cons_succ, zero_add, add_zero, mul_one, zero_mul, m2, m3, m4]
    refine plan_p rfl rfl pr_move ?_
    try simp only [n0, n1, n2, n3, getD_cons_zero, getD_cons_succ, set_cons_zero, set_cons_succ, zero_add, add_zero, mul_one, zero_mul, m2, m3, m4]
    refine plan_p rfl rfl (pr_idxA1 rfl rfl Try.underlying22 sz5 (by omega)) ?_
    try simp only [n0, n1, n2, n3, getD_cons_zero, getD_cons_succ, set_cons_zero, set_cons_succ, zero_add, add_zero, mul_one, zero_mul, m2, m3, m4]
    refine plan_r rfl rfl (rr_load1 (fun w' hw => hH.far 1 rfl hw (by simp only [List.mem_cons, List.not_mem_nil, or_false, not_or]; exact ⟨hH.other (i := 5) rfl (j := 1) rfl (by decide) rfl, hH.other (i := 6) rfl (j := 1) rfl (by decide) rfl⟩)) rfl Try.underlying5 rfl (arr8_get (by omega))) ?_
    try simp only [n0, n1, n2, n3, getD_cons_zero, getD_cons_succ, set_cons_zero, set_cons_succ, zero_add, add_zero, mul_one, zero_mul, m2, m3, m4]
    refine plan_r rfl rfl (rr_load1 (fun w' hw => hH.far 2 rfl hw (by simp only [List.mem_cons, List.not_mem_nil, or_false, not_or]; exact ⟨hH.other (i := 5) rfl (j := 2) rfl (by decide) rfl, hH.other (i := 6) rfl (j := 2) rfl (by decide) rfl⟩)) rfl Try.underlying5 rfl (arr8_get (by omega))) ?_
    try simp only [n0, n1, n2, n3, getD_cons_zero, getD_cons_succ, set_cons_zero, set_cons_succ, zero_add, add_zero, mul_one, zero_mul, m2, m3, m4]
    refine plan_p rfl rfl (pr_bin rfl rfl (bin_xor_u8 _ _)) ?_
    try simp only [n0, n1, n2, n3, getD_cons_zero, getD_cons_succ, set_cons_zero, set_cons_succ, zero_add, add_zero, mul_one, zero_mul, m2, m3, m4]
    refine plan_p rfl rfl (pr_idxA1 rfl rfl Try.underlying22 sz5 (by omega)) ?_
    try simp only [n0, n1, n2, n3, getD_cons_zero, getD_cons_succ, set_cons_zero, set_cons_succ, zero_add, add_zero, mul_one, zero_mul, m2, m3, m4]
    refine plan_r rfl rfl (rr_load1 (fun w' hw => hH.far 3 rfl hw (by simp only [List.mem_cons, List.not_mem_nil, or_false, not_or]; exact ⟨hH.other (i := 5) rfl (j := 3) rfl (by decide) rfl, hH.other (i := 6) rfl (j := 3) rfl (by decide) rfl⟩)) rfl Try.underlying5 rfl (arr8_get (by omega))) ?_
    try simp only [n0, n1, n2, n3, getD_cons_zero, getD_cons_succ, set_cons_zero, set_cons_succ, zero_add, add_zero, mul_one, zero_mul, m2, m3, m4]
    refine plan_r rfl rfl (rr_load1 (fun w' hw => hH.far 4 rfl hw (by simp only [List.mem_cons, List.not_mem_nil, or_false, not_or]; exact ⟨hH.other (i := 5) rfl (j := 4) rfl (by decide) rfl, hH.other (i := 6) rfl (j := 4) rfl (by decide) rfl⟩)) rfl Try.underlying5 rfl (arr8_get (by omega))) ?_
    try simp only [n0, n1, n2, n3, getD_cons_zero, getD_cons_succ, set_cons_zero, set_cons_succ, zero_add, add_zero, mul_one, zero_mul, m2, m3, m4]
    refine plan_p rfl rfl (pr_bin rfl rfl (bin_xor_u8 _ _)) ?_
    try simp only [n0, n1, n2, n3, getD_cons_zero, getD_cons_succ, set_cons_zero, set_cons_succ, zero_add, add_zero, mul_one, zero_mul, m2, m3, m4]
    refine plan_store1s 5 rfl rfl hH rfl rfl rfl rfl sz5 (by simp <;> omega) (by simp) ?_
    clear hH
    intro w49 hH
    try simp only [n0, n1, n2, n3, getD_cons_zero, getD_cons_succ, set_cons_zero, set_cons_succ, zero_add, add_zero, mul_one, zero_mul, m2, m3, m4, m5, m6, m7, Value.cells, arr8_set, arr32_set, arr64_set, arrB_set] at hH ⊢
    refine plan_p rfl rfl (pr_idxA1 rfl rfl Try.underlying22 sz5 (by omega)) ?_
    try simp only [n0, n1, n2, n3, getD_cons_zero, getD_cons_succ, set_cons_zero, set_cons_succ, zero_add, add_zero, mul_one, zero_mul, m2, m3, m4]
    refine plan_store1s 6 rfl rfl hH rfl rfl rfl rfl sz5 (by simp <;> omega) (by simp) ?_
    clear hH
    intro w50 hH
    try simp only [n0, n1, n2, n3, getD_cons_zero, getD_cons_succ, set_cons_zero, set_cons_succ, zero_add, add_zero, mul_one, zero_mul, m2, m3, m4, m5, m6, m7, Value.cells, arr8_set, arr32_set, arr64_set, arrB_set] at hH ⊢
    refine plan_nil hH ?_
    clear hH
    intro w51 hH
    refine hK48 _ _ ?_
    try clear hK48 K48
    refine wp_region_text [.p 0, .p 1, .p 2] rfl ?_
    refine plan_p rfl rfl pr_move ?_
    try simp only [n0, n1, n2, n3, getD_cons_zero, getD_cons_succ, set_cons_zero, set_cons_succ, zero_add, add_zero, mul_one, zero_mul, m2, m3, m4]
    refine plan_p rfl rfl (pr_bin rfl rfl (by first | exact bin_add_n (n := 1) (by omega) | exact bin_add_i (by omega) (by omega))) ?_
    try simp only [n0, n1, n2, n3, getD_cons_zero, getD_cons_succ, set_cons_zero, set_cons_succ, zero_add, add_zero, mul_one, zero_mul, m2, m3, m4]
    refine plan_p rfl rfl pr_assign ?_
    try simp only [n0, n1, n2, n3, getD_cons_zero, getD_cons_succ, set_cons_zero, set_cons_succ, zero_add, add_zero, mul_one, zero_mul, m2, m3, m4]
    refine plan_nil hH ?_
    clear hH
    intro w52 hH
    try simp only [Exit.then, Exit.inBlock, ↓reduceIte, Nat.reduceEqDiff]
    refine ⟨16 - (i + 1), ?_, _, rfl, by kernel_rfl, ?_⟩
    · first | omega | (omega)
    simp only [getAll, List.map_cons, List.map_nil, getD_cons_zero, getD_cons_succ]
    refine ⟨i + 1, rfl, ?_, rfl, ?_⟩
    ·
      exact (hH.say 5 rfl (arr8_congr fun j hj => upd_lt (g := fun j => g j ^^^ h j) (z := fun _ => 0) rfl j)).say 6 rfl (arr8_congr fun j hj => upd_lt (g := fun j => nbP (mulP (ofP f) (ofP g)) j ^^^ nbP (mulP (ofP f) (ofP h)) j) (z := fun _ => 0) rfl j)
    · first | omega | (omega)
  ·
    try simp only [decide_eq_true_eq, decide_eq_false_iff_not, beq_iff_eq, bne_iff_ne, beq_eq_false_iff_ne, ne_eq, Bool.not_eq_true', Bool.not_eq_false', bne_eq_false_iff_eq, Nat.not_lt, Nat.not_le, gt_iff_lt, ge_iff_le] at hc47
    obtain rfl : i = 16 := by omega
    replace hH := (hH.say 5 rfl (arr8_congr (g := fun j => g j ^^^ h j) fun j hj => if_pos hj)).say 6 rfl (arr8_congr (g := fun j => nbP (mulP (ofP f) (ofP g)) j ^^^ nbP (mulP (ofP f) (ofP h)) j) fun j hj => if_pos hj)
    simp only [List.set_cons_zero, List.set_cons_succ] at hH
    refine wp_exit ?_
    try simp only [Exit.then, Exit.inBlock, ↓reduceIte, Nat.reduceEqDiff]
    refine hK25 _ _ ?_
    try clear hK25 K25
    refine wp_seq_k ?_
    intro K53 hK53
    refine wp_region_plan [.q 0, .p 1, .p 2, .p 4, .p 6, .q 3, .q 5, .q 7, .q 8, .p 9, .p 10, .p 11, .q 12, .q 13, .q 14, .q 15, .p 16, .p 17, .p 18, .q 19, .q 20, .q 21, .q 22, .p 23, .p 24, .p 25, .q 26, .q 27, .q 28, .q 29, .q 30, .q 31, .q 32, .q 33, .q 34, .q 35, .p 36, .p 37, .p 38] (by kernel_rfl) (by kernel_rfl) (by kernel_rfl) (by kernel_rfl) (fun _ _ _ _ _ h => by first | exact h | exact BP.panic _ _ _ _ _ h) ?_
    refine plan_q rfl rfl (qr_call cf24 (fun w' hw => sealed_calls w') rfl) ?_
    try simp only [n0, n1, n2, n3, getD_cons_zero, getD_cons_succ, set_cons_zero, set_cons_succ, zero_add, add_zero, mul_one, zero_mul, m2, m3, m4]
    refine plan_p (v := BV true) rfl rfl (pr_move_v rfl) ?_
    try simp only [n0, n1, n2, n3, getD_cons_zero, getD_cons_succ, set_cons_zero, set_cons_succ, zero_add, add_zero, mul_one, zero_mul, m2, m3, m4]
    refine plan_p rfl rfl (pr_slice_arr_all rfl Try.underlying22 sz5) ?_
    try simp only [n0, n1, n2, n3, getD_cons_zero, getD_cons_succ, set_cons_zero, set_cons_succ, zero_add, add_zero, mul_one, zero_mul, m2, m3, m4]
    try simp only [Nat.mul_one, Nat.zero_add, Nat.add_sub_cancel_left]
    refine plan_p rfl rfl (pr_slice_arr_all rfl Try.underlying22 sz5) ?_
    try simp only [n0, n1, n2, n3, getD_cons_zero, getD_cons_succ, set_cons_zero, set_cons_succ, zero_add, add_zero, mul_one, zero_mul, m2, m3, m4]
    try simp only [Nat.mul_one, Nat.zero_add, Nat.add_sub_cancel_left]
    refine plan_p rfl rfl (pr_slice_arr_all rfl Try.underlying22 sz5) ?_
    try simp only [n0, n1, n2, n3, getD_cons_zero, getD_cons_succ, set_cons_zero, set_cons_succ, zero_add, add_zero, mul_one, zero_mul, m2, m3, m4]
    try simp only [Nat.mul_one, Nat.zero_add, Nat.add_sub_cancel_left]
    refine plan_q rfl rfl (qr_b2s (Sl.of_arr8 (hH.blk 3 rfl) (by omega) (by omega)) rfl Try.underlying27 Try.underlying5 Try.underlying9) ?_
    try simp only [n0, n1, n2, n3, getD_cons_zero, getD_cons_succ, set_cons_zero, set_cons_succ, zero_add, add_zero, mul_one, zero_mul, m2, m3, m4]
    refine plan_q rfl rfl (qr_b2s (Sl.of_arr8 (hH.blk 0 rfl) (by omega) (by omega)) rfl Try.underlying27 Try.underlying5 Try.underlying9) ?_
    try simp only [n0, n1, n2, n3, getD_cons_zero, getD_cons_succ, set_cons_zero, set_cons_succ, zero_add, add_zero, mul_one, zero_mul, m2, m3, m4]
    refine plan_q rfl rfl (qr_b2s (Sl.of_arr8 (hH.blk 1 rfl) (by omega) (by omega)) rfl Try.underlying27 Try.underlying5 Try.underlying9) ?_
    try simp only [n0, n1, n2, n3, getD_cons_zero, getD_cons_succ, set_cons_zero, set_cons_succ, zero_add, add_zero, mul_one, zero_mul, m2, m3, m4]
    refine plan_q rfl rfl (qr_call cf28 (fun w' hw => refTimes_calls _ _ (by rw [bsz]; simp) (by rw [bsz]; simp) w') rfl) ?_
    try simp only [n0, n1, n2, n3, getD_cons_zero, getD_cons_succ, set_cons_zero, set_cons_succ, zero_add, add_zero, mul_one, zero_mul, m2, m3, m4]
    refine plan_p rfl rfl (pr_bin rfl rfl bin_eql_s) ?_
    try simp only [n0, n1, n2, n3, getD_cons_zero, getD_cons_succ, set_cons_zero, set_cons_succ, zero_add, add_zero, mul_one, zero_mul, m2, m3, m4]
    refine plan_p rfl rfl (pr_pick_t rfl) ?_
    try simp only [n0, n1, n2, n3, getD_cons_zero, getD_cons_succ, set_cons_zero, set_cons_succ, zero_add, add_zero, mul_one, zero_mul, m2, m3, m4]
    refine plan_p (v := BV true) rfl rfl (pr_move_v (by show BV (_ == _) = _; exact congrArg BV (beq_iff_eq.2 (times_doc f g)))) ?_
    try simp only [n0, n1, n2, n3, getD_cons_zero, getD_cons_succ, set_cons_zero, set_cons_succ, zero_add, add_zero, mul_one, zero_mul, m2, m3, m4]
    refine plan_q rfl rfl (qr_loadW rfl (hH.blk 1 rfl) Try.underlying22 rfl sz22 (by simp)) ?_
    try simp only [n0, n1, n2, n3, getD_cons_zero, getD_cons_succ, set_cons_zero, set_cons_succ, zero_add, add_zero, mul_one, zero_mul, m2, m3, m4]
    refine plan_q rfl rfl (qr_loadW rfl (hH.blk 0 rfl) Try.underlying22 rfl sz22 (by simp)) ?_
    try simp only [n0, n1, n2, n3, getD_cons_zero, getD_cons_succ, set_cons_zero, set_cons_succ, zero_add, add_zero, mul_one, zero_mul, m2, m3, m4]
    refine plan_q rfl rfl (qr_call cf27 (fun w' hw => gTimes_calls _ _ w') rfl) ?_
    try simp only [n0, n1, n2, n3, getD_cons_zero, getD_cons_succ, set_cons_zero, set_cons_succ, zero_add, add_zero, mul_one, zero_mul, m2, m3, m4]
    refine plan_q rfl rfl (qr_loadW rfl (hH.blk 3 rfl) Try.underlying22 rfl sz22 (by simp)) ?_
    try simp only [n0, n1, n2, n3, getD_cons_zero, getD_cons_succ, set_cons_zero, set_cons_succ, zero_add, add_zero, mul_one, zero_mul, m2, m3, m4]
    refine plan_p rfl rfl (pr_bin rfl rfl (bin_eql_arr8 Try.underlying22 Try.underlying5 sz5 Try.eqGuardType22)) ?_
    try simp only [n0, n1, n2, n3, getD_cons_zero, getD_cons_succ, set_cons_zero, set_cons_succ, zero_add, add_zero, mul_one, zero_mul, m2, m3, m4]
    refine plan_p rfl rfl (pr_pick_t rfl) ?_
    try simp only [n0, n1, n2, n3, getD_cons_zero, getD_cons_succ, set_cons_zero, set_cons_succ, zero_add, add_zero, mul_one, zero_mul, m2, m3, m4]
    refine plan_p (v := BV true) rfl rfl (pr_move_v (by show BV _ = _; exact congrArg BV (all_beq fun i _ => by rw [mulP_comm]))) ?_
    try simp only [n0, n1, n2, n3, getD_cons_zero, getD_cons_succ, set_cons_zero, set_cons_succ, zero_add, add_zero, mul_one, zero_mul, m2, m3, m4]
    refine plan_q rfl rfl (qr_loadW rfl (hH.blk 0 rfl) Try.underlying22 rfl sz22 (by simp)) ?_
    try simp only [n0, n1, n2, n3, getD_cons_zero, getD_cons_succ, set_cons_zero, set_cons_succ, zero_add, add_zero, mul_one, zero_mul, m2, m3, m4]
    refine plan_q rfl rfl (qr_loadW rfl (hH.blk 5 rfl) Try.underlying22 rfl sz22 (by simp)) ?_
    try simp only [n0, n1, n2, n3, getD_cons_zero, getD_cons_succ, set_cons_zero, set_cons_succ, zero_add, add_zero, mul_one, zero_mul, m2, m3, m4]
    refine plan_q rfl rfl (qr_call cf27 (fun w' hw => gTimes_calls _ _ w') rfl) ?_
    try simp only [n0, n1, n2, n3, getD_cons_zero, getD_cons_succ, set_cons_zero, set_cons_succ, zero_add, add_zero, mul_one, zero_mul, m2, m3, m4]
    refine plan_q rfl rfl (qr_loadW rfl (hH.blk 6 rfl) Try.underlying22 rfl sz22 (by simp)) ?_
    try simp only [n0, n1, n2, n3, getD_cons_zero, getD_cons_succ, set_cons_zero, set_cons_succ, zero_add, add_zero, mul_one, zero_mul, m2, m3, m4]
    refine plan_p rfl rfl (pr_bin rfl rfl (bin_eql_arr8 Try.underlying22 Try.underlying5 sz5 Try.eqGuardType22)) ?_
    try simp only [n0, n1, n2, n3, getD_cons_zero, getD_cons_succ, set_cons_zero, set_cons_succ, zero_add, add_zero, mul_one, zero_mul, m2, m3, m4]
    refine plan_p rfl rfl (pr_pick_t rfl) ?_
    try simp only [n0, n1, n2, n3, getD_cons_zero, getD_cons_succ, set_cons_zero, set_cons_succ, zero_add, add_zero, mul_one, zero_mul, m2, m3, m4]
    refine plan_p (v := BV true) rfl rfl (pr_move_v (by show BV _ = _; exact congrArg BV (all_beq fun i hi => by rw [of_xor, mulP_xor, nb_xor _ _ i hi]))) ?_
    try simp only [n0, n1, n2, n3, getD_cons_zero, getD_cons_succ, set_cons_zero, set_cons_succ, zero_add, add_zero, mul_one, zero_mul, m2, m3, m4]
    refine plan_q rfl rfl (qr_loadW rfl (hH.blk 0 rfl) Try.underlying22 rfl sz22 (by simp)) ?_
    try simp only [n0, n1, n2, n3, getD_cons_zero, getD_cons_succ, set_cons_zero, set_cons_succ, zero_add, add_zero, mul_one, zero_mul, m2, m3, m4]
    refine plan_q rfl rfl (qr_loadW rfl (hH.blk 1 rfl) Try.underlying22 rfl sz22 (by simp)) ?_
    try simp only [n0, n1, n2, n3, getD_cons_zero, getD_cons_succ, set_cons_zero, set_cons_succ, zero_add, add_zero, mul_one, zero_mul, m2, m3, m4]
    refine plan_q rfl rfl (qr_call cf27 (fun w' hw => gTimes_calls _ _ w') rfl) ?_
    try simp only [n0, n1, n2, n3, getD_cons_zero, getD_cons_succ, set_cons_zero, set_cons_succ, zero_add, add_zero, mul_one, zero_mul, m2, m3, m4]
    refine plan_q rfl rfl (qr_loadW rfl (hH.blk 2 rfl) Try.underlying22 rfl sz22 (by simp)) ?_
    try simp only [n0, n1, n2, n3, getD_cons_zero, getD_cons_succ, set_cons_zero, set_cons_succ, zero_add, add_zero, mul_one, zero_mul, m2, m3, m4]
    refine plan_q rfl rfl (qr_call cf27 (fun w' hw => gTimes_calls _ _ w') rfl) ?_
    try simp only [n0, n1, n2, n3, getD_cons_zero, getD_cons_succ, set_cons_zero, set_cons_succ, zero_add, add_zero, mul_one, zero_mul, m2, m3, m4]
    refine plan_q rfl rfl (qr_loadW rfl (hH.blk 0 rfl) Try.underlying22 rfl sz22 (by simp)) ?_
    try simp only [n0, n1, n2, n3, getD_cons_zero, getD_cons_succ, set_cons_zero, set_cons_succ, zero_add, add_zero, mul_one, zero_mul, m2, m3, m4]
    refine plan_q rfl rfl (qr_loadW rfl (hH.blk 1 rfl) Try.underlying22 rfl sz22 (by simp)) ?_
    try simp only [n0, n1, n2, n3, getD_cons_zero, getD_cons_succ, set_cons_zero, set_cons_succ, zero_add, add_zero, mul_one, zero_mul, m2, m3, m4]
    refine plan_q rfl rfl (qr_loadW rfl (hH.blk 2 rfl) Try.underlying22 rfl sz22 (by simp)) ?_
    try simp only [n0, n1, n2, n3, getD_cons_zero, getD_cons_succ, set_cons_zero, set_cons_succ, zero_add, add_zero, mul_one, zero_mul, m2, m3, m4]
    refine plan_q rfl rfl (qr_call cf27 (fun w' hw => gTimes_calls _ _ w') rfl) ?_
    try simp only [n0, n1, n2, n3, getD_cons_zero, getD_cons_succ, set_cons_zero, set_cons_succ, zero_add, add_zero, mul_one, zero_mul, m2, m3, m4]
    refine plan_q rfl rfl (qr_call cf27 (fun w' hw => gTimes_calls _ _ w') rfl) ?_
    try simp only [n0, n1, n2, n3, getD_cons_zero, getD_cons_succ, set_cons_zero, set_cons_succ, zero_add, add_zero, mul_one, zero_mul, m2, m3, m4]
    refine plan_p rfl rfl (pr_bin rfl rfl (bin_eql_arr8 Try.underlying22 Try.underlying5 sz5 Try.eqGuardType22)) ?_
    try simp only [n0, n1, n2, n3, getD_cons_zero, getD_cons_succ, set_cons_zero, set_cons_succ, zero_add, add_zero, mul_one, zero_mul, m2, m3, m4]
    refine plan_p rfl rfl (pr_pick_t rfl) ?_
    try simp only [n0, n1, n2, n3, getD_cons_zero, getD_cons_succ, set_cons_zero, set_cons_succ, zero_add, add_zero, mul_one, zero_mul, m2, m3, m4]
    refine plan_p rfl rfl pr_assign ?_
    try simp only [n0, n1, n2, n3, getD_cons_zero, getD_cons_succ, set_cons_zero, set_cons_succ, zero_add, add_zero, mul_one, zero_mul, m2, m3, m4]
    refine plan_nil hH ?_
    clear hH
    intro w54 hH
    refine hK53 _ _ ?_
    try clear hK53 K53
    refine wp_ret ?_
    try simp only [Exit.then, Exit.inBlock, ↓reduceIte, Nat.reduceEqDiff]
    refine BP.ret1 rfl rfl ?_
    exact ⟨congrArg BV (all_beq fun i hi => by rw [of_nb, of_nb, mulP_assoc]), hH.chg⟩

end Go.Proofs.Ytjbohfonjalfnaa
