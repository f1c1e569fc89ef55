/- What AES does, in plain terms: the chapter's block, and that two unlike blocks are turned to unlike ones. No conditions. -/
import Derived.Test.YtmoaddicejohgaaDoorAes1
set_option linter.unusedSimpArgs false
set_option linter.unusedVariables false
set_option maxRecDepth 100000
set_option maxHeartbeats 4000000
namespace Go.Proofs.YtmoaddicejohgaaDoor
open Go
open List (getD_cons_zero getD_cons_succ set_cons_zero set_cons_succ)

/-! ### The chapter's block -/
theorem kexp_is (key : Nat → UInt8) (g : Nat → UInt8) (m : Nat) (h : ∀ n, n < m → (if n < 16 then key n
    else if n % 16 < 4 then g (n - 16) ^^^ (sbox (g (n - n % 16 - 4 + (n % 16 + 1) % 4)).toNat ^^^ (if n % 16 = 0 then conN (n / 16 - 1) else 0))
    else g (n - 16) ^^^ g (n - 4)) = g n) (n : Nat) (hn : n < m) : kexp key n = g n := by
  induction n using Nat.strongRecOn with
  | ind n ih =>
    rw [← h n hn, kexp]
    by_cases h1 : n < 16
    · rw [if_pos h1, if_pos h1]
    · rw [if_neg h1, if_neg h1]
      by_cases h2 : n % 16 < 4
      · rw [if_pos h2, if_pos h2, ih (n - 16) (by omega) (by omega), ih _ (by omega) (by omega)]
      · rw [if_neg h2, if_neg h2, ih (n - 16) (by omega) (by omega), ih (n - 4) (by omega) (by omega)]
theorem subs_congr {s t : Nat → UInt8} (h : ∀ i, i < 16 → s i = t i) : subs s = subs t := by
  funext j
  unfold subs
  rw [h _ (Nat.mod_lt _ (by decide))]
theorem aes_step (k kl s : Nat → UInt8) (n : Nat) (a b : List UInt8) (hk : ∀ i, i < 176 → k i = kl i) (hn : n < 10) (ha : ∀ i, i < 16 → aesR k s n i = a.getD i 0)
    (hb : ((List.range 16).all fun j => ((if n + 1 < 10 then colsN (subs fun i => a.getD i 0) 4 else subs fun i => a.getD i 0) j ^^^ kl ((n + 1) * 16 + j)) == b.getD j 0) = true) (i : Nat) (hi : i < 16) : aesR k s (n + 1) i = b.getD i 0 := by
  rw [aesR_succ, subs_congr ha]
  have := List.all_eq_true.1 hb i (List.mem_range.2 hi)
  show (if n + 1 < 10 then colsN (subs fun i => a.getD i 0) 4 else subs fun i => a.getD i 0) i ^^^ k ((n + 1) * 16 + i) = _
  rw [hk _ (by omega)]
  exact eq_of_beq this
def fipsKL : List UInt8 := [0, 1, 2, 3, 4, 5, 6, 7, 8, 9, 10, 11, 12, 13, 14, 15, 214, 170, 116, 253, 210, 175, 114, 250, 218, 166, 120, 241, 214, 171, 118, 254, 182, 146, 207, 11, 100, 61, 189, 241, 190, 155, 197, 0, 104, 48, 179, 254, 182, 255, 116, 78, 210, 194, 201, 191, 108, 89, 12, 191, 4, 105, 191, 65, 71, 247, 247, 188, 149, 53, 62, 3, 249, 108, 50, 188, 253, 5, 141, 253, 60, 170, 163, 232, 169, 159, 157, 235, 80, 243, 175, 87, 173, 246, 34, 170, 94, 57, 15, 125, 247, 166, 146, 150, 167, 85, 61, 193, 10, 163, 31, 107, 20, 249, 112, 26, 227, 95, 226, 140, 68, 10, 223, 77, 78, 169, 192, 38, 71, 67, 135, 53, 164, 28, 101, 185, 224, 22, 186, 244, 174, 191, 122, 210, 84, 153, 50, 209, 240, 133, 87, 104, 16, 147, 237, 156, 190, 44, 151, 78, 19, 17, 29, 127, 227, 148, 74, 23, 243, 7, 167, 139, 77, 43, 48, 197]
def fipsK : List UInt8 := (List.range 16).map fun i => UInt8.ofNat i
def fipsB : List UInt8 := (List.range 16).map fun i => UInt8.ofNat (17 * i)
theorem fips_key (i : Nat) (hi : i < 176) : kexp (fun i => fipsK.getD i 0) i = fipsKL.getD i 0 := by
  refine kexp_is _ (fun n => fipsKL.getD n 0) 176 (fun n hn => ?_) i hi
  have : ((List.range 176).all fun n => (if n < 16 then fipsK.getD n 0
    else if n % 16 < 4 then fipsKL.getD (n - 16) 0 ^^^ (sbox (fipsKL.getD (n - n % 16 - 4 + (n % 16 + 1) % 4) 0).toNat ^^^ (if n % 16 = 0 then conN (n / 16 - 1) else 0))
    else fipsKL.getD (n - 16) 0 ^^^ fipsKL.getD (n - 4) 0) == fipsKL.getD n 0) = true := by kernel_rfl
  exact eq_of_beq (List.all_eq_true.1 this n (List.mem_range.2 hn))
theorem fips_r0 (i : Nat) (hi : i < 16) : aesR (kexp fun i => fipsK.getD i 0) (fun i => fipsB.getD i 0) 0 i = ([0, 16, 32, 48, 64, 80, 96, 112, 128, 144, 160, 176, 192, 208, 224, 240] : List UInt8).getD i 0 := by
  show fipsB.getD i 0 ^^^ kexp _ i = _
  rw [fips_key i (by omega)]
  have : ((List.range 16).all fun i => (fipsB.getD i 0 ^^^ fipsKL.getD i 0) == ([0, 16, 32, 48, 64, 80, 96, 112, 128, 144, 160, 176, 192, 208, 224, 240] : List UInt8).getD i 0) = true := by kernel_rfl
  exact eq_of_beq (List.all_eq_true.1 this i (List.mem_range.2 hi))

theorem fips_r1 : ∀ i, i < 16 → aesR (kexp fun i => fipsK.getD i 0) (fun i => fipsB.getD i 0) 1 i = [137, 216, 16, 232, 133, 90, 206, 104, 45, 24, 67, 216, 203, 18, 143, 228].getD i 0 :=
  aes_step _ (fun i => fipsKL.getD i 0) _ 0 [0, 16, 32, 48, 64, 80, 96, 112, 128, 144, 160, 176, 192, 208, 224, 240] [137, 216, 16, 232, 133, 90, 206, 104, 45, 24, 67, 216, 203, 18, 143, 228] fips_key (by decide) fips_r0 (by kernel_rfl)

theorem fips_r2 : ∀ i, i < 16 → aesR (kexp fun i => fipsK.getD i 0) (fun i => fipsB.getD i 0) 2 i = [73, 21, 89, 143, 85, 229, 215, 160, 218, 202, 148, 250, 31, 10, 99, 247].getD i 0 :=
  aes_step _ (fun i => fipsKL.getD i 0) _ 1 [137, 216, 16, 232, 133, 90, 206, 104, 45, 24, 67, 216, 203, 18, 143, 228] [73, 21, 89, 143, 85, 229, 215, 160, 218, 202, 148, 250, 31, 10, 99, 247] fips_key (by decide) fips_r1 (by kernel_rfl)

theorem fips_r3 : ∀ i, i < 16 → aesR (kexp fun i => fipsK.getD i 0) (fun i => fipsB.getD i 0) 3 i = [250, 99, 106, 40, 37, 179, 57, 201, 64, 102, 138, 49, 87, 36, 77, 23].getD i 0 :=
  aes_step _ (fun i => fipsKL.getD i 0) _ 2 [73, 21, 89, 143, 85, 229, 215, 160, 218, 202, 148, 250, 31, 10, 99, 247] [250, 99, 106, 40, 37, 179, 57, 201, 64, 102, 138, 49, 87, 36, 77, 23] fips_key (by decide) fips_r2 (by kernel_rfl)

theorem fips_r4 : ∀ i, i < 16 → aesR (kexp fun i => fipsK.getD i 0) (fun i => fipsB.getD i 0) 4 i = [36, 114, 64, 35, 105, 102, 179, 250, 110, 210, 117, 50, 136, 66, 91, 108].getD i 0 :=
  aes_step _ (fun i => fipsKL.getD i 0) _ 3 [250, 99, 106, 40, 37, 179, 57, 201, 64, 102, 138, 49, 87, 36, 77, 23] [36, 114, 64, 35, 105, 102, 179, 250, 110, 210, 117, 50, 136, 66, 91, 108] fips_key (by decide) fips_r3 (by kernel_rfl)

theorem fips_r5 : ∀ i, i < 16 → aesR (kexp fun i => fipsK.getD i 0) (fun i => fipsB.getD i 0) 5 i = [200, 22, 119, 188, 155, 122, 201, 59, 37, 2, 121, 146, 176, 38, 25, 150].getD i 0 :=
  aes_step _ (fun i => fipsKL.getD i 0) _ 4 [36, 114, 64, 35, 105, 102, 179, 250, 110, 210, 117, 50, 136, 66, 91, 108] [200, 22, 119, 188, 155, 122, 201, 59, 37, 2, 121, 146, 176, 38, 25, 150] fips_key (by decide) fips_r4 (by kernel_rfl)

theorem fips_r6 : ∀ i, i < 16 → aesR (kexp fun i => fipsK.getD i 0) (fun i => fipsB.getD i 0) 6 i = [198, 47, 225, 9, 247, 94, 237, 195, 204, 121, 57, 93, 132, 249, 207, 93].getD i 0 :=
  aes_step _ (fun i => fipsKL.getD i 0) _ 5 [200, 22, 119, 188, 155, 122, 201, 59, 37, 2, 121, 146, 176, 38, 25, 150] [198, 47, 225, 9, 247, 94, 237, 195, 204, 121, 57, 93, 132, 249, 207, 93] fips_key (by decide) fips_r5 (by kernel_rfl)

theorem fips_r7 : ∀ i, i < 16 → aesR (kexp fun i => fipsK.getD i 0) (fun i => fipsB.getD i 0) 7 i = [209, 135, 108, 15, 121, 196, 48, 10, 180, 85, 148, 173, 214, 111, 244, 31].getD i 0 :=
  aes_step _ (fun i => fipsKL.getD i 0) _ 6 [198, 47, 225, 9, 247, 94, 237, 195, 204, 121, 57, 93, 132, 249, 207, 93] [209, 135, 108, 15, 121, 196, 48, 10, 180, 85, 148, 173, 214, 111, 244, 31] fips_key (by decide) fips_r6 (by kernel_rfl)

theorem fips_r8 : ∀ i, i < 16 → aesR (kexp fun i => fipsK.getD i 0) (fun i => fipsB.getD i 0) 8 i = [253, 227, 186, 210, 5, 229, 208, 215, 53, 71, 150, 78, 241, 254, 55, 241].getD i 0 :=
  aes_step _ (fun i => fipsKL.getD i 0) _ 7 [209, 135, 108, 15, 121, 196, 48, 10, 180, 85, 148, 173, 214, 111, 244, 31] [253, 227, 186, 210, 5, 229, 208, 215, 53, 71, 150, 78, 241, 254, 55, 241] fips_key (by decide) fips_r7 (by kernel_rfl)

theorem fips_r9 : ∀ i, i < 16 → aesR (kexp fun i => fipsK.getD i 0) (fun i => fipsB.getD i 0) 9 i = [189, 110, 124, 61, 242, 181, 119, 158, 11, 97, 33, 110, 139, 16, 182, 137].getD i 0 :=
  aes_step _ (fun i => fipsKL.getD i 0) _ 8 [253, 227, 186, 210, 5, 229, 208, 215, 53, 71, 150, 78, 241, 254, 55, 241] [189, 110, 124, 61, 242, 181, 119, 158, 11, 97, 33, 110, 139, 16, 182, 137] fips_key (by decide) fips_r8 (by kernel_rfl)

theorem fips_r10 : ∀ i, i < 16 → aesR (kexp fun i => fipsK.getD i 0) (fun i => fipsB.getD i 0) 10 i = [105, 196, 224, 216, 106, 123, 4, 48, 216, 205, 183, 128, 112, 180, 197, 90].getD i 0 :=
  aes_step _ (fun i => fipsKL.getD i 0) _ 9 [189, 110, 124, 61, 242, 181, 119, 158, 11, 97, 33, 110, 139, 16, 182, 137] [105, 196, 224, 216, 106, 123, 4, 48, 216, 205, 183, 128, 112, 180, 197, 90] fips_key (by decide) fips_r9 (by kernel_rfl)

theorem fips_first : (aesR (kexp fun i => fipsK.getD i 0) (fun i => fipsB.getD i 0) 10 0 == 105) = true := by rw [fips_r10 0 (by decide)]; rfl
theorem fips_last : (aesR (kexp fun i => fipsK.getD i 0) (fun i => fipsB.getD i 0) 10 15 == 90) = true := by rw [fips_r10 15 (by decide)]; rfl

/-! ### Unlike blocks -/
theorem UInt8.xor_cancel (x y : UInt8) : x ^^^ (x ^^^ y) = y := by rw [← UInt8.xor_assoc, UInt8.xor_self, UInt8.zero_xor]
theorem UInt8.xor_left_comm (x y z : UInt8) : x ^^^ (y ^^^ z) = y ^^^ (x ^^^ z) := by rw [← UInt8.xor_assoc, UInt8.xor_comm x y, UInt8.xor_assoc]
theorem UInt8.xor_zero_eq {x y : UInt8} (h : x ^^^ y = 0) : x = y := by
  have := congrArg (x ^^^ ·) h
  simp only [UInt8.xor_cancel, UInt8.xor_zero] at this
  exact this.symm
theorem shr7 (x : UInt8) : x >>> 7 = 0 ∨ x >>> 7 = 1 := by
  have h : (x >>> 7).toNat < 2 := by
    rw [UInt8.toNat_shiftRight]; have := x.toNat_lt
    show x.toNat >>> 7 < 2
    rw [Nat.shiftRight_eq_div_pow]; omega
  rcases (by omega : (x >>> 7).toNat = 0 ∨ (x >>> 7).toNat = 1) with h | h
  · exact .inl (UInt8.toNat_inj.1 h)
  · exact .inr (UInt8.toNat_inj.1 h)
theorem dbl_xor (x y : UInt8) : dbl (x ^^^ y) = dbl x ^^^ dbl y := by
  unfold dbl
  rw [UInt8.shiftLeft_xor, UInt8.shiftRight_xor]
  have : ∀ u v : UInt8, (u = 0 ∨ u = 1) → (v = 0 ∨ v = 1) → (u ^^^ v) * 27 = (u * 27) ^^^ (v * 27) := by
    intro u v h h'
    rcases h with h | h <;> rcases h' with h' | h' <;> rw [h, h'] <;> decide
  rw [this _ _ (shr7 x) (shr7 y)]
  simp only [UInt8.xor_assoc, UInt8.xor_comm, UInt8.xor_left_comm]
theorem dbl_zero : dbl 0 = 0 := by decide
def sboxI : List Nat := [82, 9, 106, 213, 48, 54, 165, 56, 191, 64, 163, 158, 129, 243, 215, 251, 124, 227, 57, 130, 155, 47, 255, 135, 52, 142, 67, 68, 196, 222, 233, 203, 84, 123, 148, 50, 166, 194, 35, 61, 238, 76, 149, 11, 66, 250, 195, 78, 8, 46, 161, 102, 40, 217, 36, 178, 118, 91, 162, 73, 109, 139, 209, 37, 114, 248, 246, 100, 134, 104, 152, 22, 212, 164, 92, 204, 93, 101, 182, 146, 108, 112, 72, 80, 253, 237, 185, 218, 94, 21, 70, 87, 167, 141, 157, 132, 144, 216, 171, 0, 140, 188, 211, 10, 247, 228, 88, 5, 184, 179, 69, 6, 208, 44, 30, 143, 202, 63, 15, 2, 193, 175, 189, 3, 1, 19, 138, 107, 58, 145, 17, 65, 79, 103, 220, 234, 151, 242, 207, 206, 240, 180, 230, 115, 150, 172, 116, 34, 231, 173, 53, 133, 226, 249, 55, 232, 28, 117, 223, 110, 71, 241, 26, 113, 29, 41, 197, 137, 111, 183, 98, 14, 170, 24, 190, 27, 252, 86, 62, 75, 198, 210, 121, 32, 154, 219, 192, 254, 120, 205, 90, 244, 31, 221, 168, 51, 136, 7, 199, 49, 177, 18, 16, 89, 39, 128, 236, 95, 96, 81, 127, 169, 25, 181, 74, 13, 45, 229, 122, 159, 147, 201, 156, 239, 160, 224, 59, 77, 174, 42, 245, 176, 200, 235, 187, 60, 131, 83, 153, 97, 23, 43, 4, 126, 186, 119, 214, 38, 225, 105, 20, 99, 85, 33, 12, 125]
theorem sbox_inv (n : Nat) (h : n < 256) : sboxI.getD (sbox n).toNat 0 = n := by
  have : ((List.range 256).all fun n => sboxI.getD (sbox n).toNat 0 == n) = true := by kernel_rfl
  exact eq_of_beq (List.all_eq_true.1 this n (List.mem_range.2 h))
theorem sbox_inj {x y : UInt8} (h : sbox x.toNat = sbox y.toNat) : x = y := by
  have h1 := sbox_inv x.toNat x.toNat_lt
  have h2 := sbox_inv y.toNat y.toNat_lt
  rw [h, h2] at h1
  exact (UInt8.toNat_inj.1 h1).symm
theorem subs_inj {s t : Nat → UInt8} (h : ∀ j, j < 16 → subs s j = subs t j) (i : Nat) (hi : i < 16) : s i = t i := by
  have := sbox_inj (h ((i + 12 * (i % 4)) % 16) (Nat.mod_lt _ (by decide)))
  rwa [show ((i + 12 * (i % 4)) % 16 + 4 * ((i + 12 * (i % 4)) % 16 % 4)) % 16 = i by omega] at this
theorem col_kernel {A B C D : UInt8} (h0 : A ^^^ (A ^^^ B ^^^ C ^^^ D) ^^^ dbl (A ^^^ B) = 0) (h1 : B ^^^ (A ^^^ B ^^^ C ^^^ D) ^^^ dbl (B ^^^ C) = 0)
    (h2 : C ^^^ (A ^^^ B ^^^ C ^^^ D) ^^^ dbl (C ^^^ D) = 0) (h3 : D ^^^ (A ^^^ B ^^^ C ^^^ D) ^^^ dbl (D ^^^ A) = 0) : A = 0 ∧ B = 0 ∧ C = 0 ∧ D = 0 := by
  simp only [dbl_xor] at h0 h1 h2 h3
  have hs : A ^^^ B ^^^ C ^^^ D = 0 := by
    have e : A ^^^ B ^^^ C ^^^ D = (A ^^^ (A ^^^ B ^^^ C ^^^ D) ^^^ (dbl A ^^^ dbl B)) ^^^ (B ^^^ (A ^^^ B ^^^ C ^^^ D) ^^^ (dbl B ^^^ dbl C)) ^^^ (C ^^^ (A ^^^ B ^^^ C ^^^ D) ^^^ (dbl C ^^^ dbl D)) ^^^ (D ^^^ (A ^^^ B ^^^ C ^^^ D) ^^^ (dbl D ^^^ dbl A)) := by
      simp only [UInt8.xor_assoc, UInt8.xor_comm, UInt8.xor_left_comm, UInt8.xor_cancel, UInt8.xor_self, UInt8.xor_zero, UInt8.zero_xor]
    rw [e, h0, h1, h2, h3]; decide
  have hd : dbl A ^^^ dbl B ^^^ dbl C ^^^ dbl D = 0 := by rw [← dbl_xor, ← dbl_xor, ← dbl_xor, hs, dbl_zero]
  rw [hs, UInt8.xor_zero] at h0 h1 h2 h3
  have hac : A = C := by
    refine UInt8.xor_zero_eq ?_
    have e : A ^^^ C = (A ^^^ (dbl A ^^^ dbl B)) ^^^ (C ^^^ (dbl C ^^^ dbl D)) ^^^ (dbl A ^^^ dbl B ^^^ dbl C ^^^ dbl D) := by
      simp only [UInt8.xor_assoc, UInt8.xor_comm, UInt8.xor_left_comm, UInt8.xor_cancel, UInt8.xor_self, UInt8.xor_zero, UInt8.zero_xor]
    rw [e, h0, h2, hd]; decide
  have hbd : B = D := by
    refine UInt8.xor_zero_eq ?_
    have e : B ^^^ D = (B ^^^ (dbl B ^^^ dbl C)) ^^^ (D ^^^ (dbl D ^^^ dbl A)) ^^^ (dbl A ^^^ dbl B ^^^ dbl C ^^^ dbl D) := by
      simp only [UInt8.xor_assoc, UInt8.xor_comm, UInt8.xor_left_comm, UInt8.xor_cancel, UInt8.xor_self, UInt8.xor_zero, UInt8.zero_xor]
    rw [e, h1, h3, hd]; decide
  subst hac hbd
  have hab : A = B := by
    refine UInt8.xor_zero_eq ?_
    have e : A ^^^ B = (A ^^^ (dbl A ^^^ dbl B)) ^^^ (B ^^^ (dbl B ^^^ dbl A)) := by
      simp only [UInt8.xor_assoc, UInt8.xor_comm, UInt8.xor_left_comm, UInt8.xor_cancel, UInt8.xor_self, UInt8.xor_zero, UInt8.zero_xor]
    rw [e, h0, h1]; decide
  subst hab
  rw [UInt8.xor_self, UInt8.xor_zero] at h0
  exact ⟨h0, h0, h0, h0⟩

theorem col_row {p q a b c d p' q' a' b' c' d' : UInt8} (h : p ^^^ (a ^^^ b ^^^ c ^^^ d ^^^ dbl (p ^^^ q)) = p' ^^^ (a' ^^^ b' ^^^ c' ^^^ d' ^^^ dbl (p' ^^^ q'))) :
    (p ^^^ p') ^^^ ((a ^^^ a') ^^^ (b ^^^ b') ^^^ (c ^^^ c') ^^^ (d ^^^ d')) ^^^ dbl ((p ^^^ p') ^^^ (q ^^^ q')) = 0 := by
  have e : (p ^^^ p') ^^^ ((a ^^^ a') ^^^ (b ^^^ b') ^^^ (c ^^^ c') ^^^ (d ^^^ d')) ^^^ dbl ((p ^^^ p') ^^^ (q ^^^ q')) = (p ^^^ (a ^^^ b ^^^ c ^^^ d ^^^ dbl (p ^^^ q))) ^^^ (p' ^^^ (a' ^^^ b' ^^^ c' ^^^ d' ^^^ dbl (p' ^^^ q'))) := by
    simp only [dbl_xor, UInt8.xor_assoc, UInt8.xor_comm, UInt8.xor_left_comm]
  rw [e, h, UInt8.xor_self]
theorem colf_inj {f g : Nat → UInt8} {o m : Nat} (ho : o + 4 ≤ m) (h : ∀ i, i < m → colf f o i = colf g o i) (i : Nat) (hi : i < m) : f i = g i := by
  have c0 : ∀ f : Nat → UInt8, colf f o o = f o ^^^ (f o ^^^ f (o + 1) ^^^ f (o + 2) ^^^ f (o + 3) ^^^ dbl (f o ^^^ f (o + 1))) := fun f => by simp [colf]
  have c1 : ∀ f : Nat → UInt8, colf f o (o + 1) = f (o + 1) ^^^ (f o ^^^ f (o + 1) ^^^ f (o + 2) ^^^ f (o + 3) ^^^ dbl (f (o + 1) ^^^ f (o + 2))) := fun f => by simp [colf]
  have c2 : ∀ f : Nat → UInt8, colf f o (o + 2) = f (o + 2) ^^^ (f o ^^^ f (o + 1) ^^^ f (o + 2) ^^^ f (o + 3) ^^^ dbl (f (o + 2) ^^^ f (o + 3))) := fun f => by simp [colf]
  have c3 : ∀ f : Nat → UInt8, colf f o (o + 3) = f (o + 3) ^^^ (f o ^^^ f (o + 1) ^^^ f (o + 2) ^^^ f (o + 3) ^^^ dbl (f (o + 3) ^^^ f o)) := fun f => by simp [colf]
  have h0 := h o (by omega)
  have h1 := h (o + 1) (by omega)
  have h2 := h (o + 2) (by omega)
  have h3 := h (o + 3) (by omega)
  rw [c0, c0] at h0
  rw [c1, c1] at h1
  rw [c2, c2] at h2
  rw [c3, c3] at h3
  obtain ⟨a, b, c, d⟩ := col_kernel (col_row h0) (col_row h1) (col_row h2) (col_row h3)
  by_cases e0 : i = o
  · subst e0; exact UInt8.xor_zero_eq a
  by_cases e1 : i = o + 1
  · subst e1; exact UInt8.xor_zero_eq b
  by_cases e2 : i = o + 2
  · subst e2; exact UInt8.xor_zero_eq c
  by_cases e3 : i = o + 3
  · subst e3; exact UInt8.xor_zero_eq d
  have := h i hi
  unfold colf at this
  rwa [if_neg e0, if_neg e1, if_neg e2, if_neg e3, if_neg e0, if_neg e1, if_neg e2, if_neg e3] at this
theorem colsN_inj {f g : Nat → UInt8} : ∀ n, n ≤ 4 → (∀ i, i < 16 → colsN f n i = colsN g n i) → ∀ i, i < 16 → f i = g i
  | 0, _, h => h
  | n + 1, hn, h => colsN_inj n (by omega) (colf_inj (o := 4 * n) (by omega) h)
theorem aes_inj {k s t : Nat → UInt8} : ∀ n, (∀ i, i < 16 → aesR k s n i = aesR k t n i) → ∀ i, i < 16 → s i = t i
  | 0, h => fun i hi => by
    have := h i hi
    simp only [aesR] at this
    exact UInt8.xor_left_inj (k i) |>.1 this
  | n + 1, h => by
    refine aes_inj (k := k) n (subs_inj (s := aesR k s n) (t := aesR k t n) ?_)
    have h' : ∀ i, i < 16 → (if n + 1 < 10 then colsN (subs (aesR k s n)) 4 else subs (aesR k s n)) i = (if n + 1 < 10 then colsN (subs (aesR k t n)) 4 else subs (aesR k t n)) i := fun i hi => by
      have := h i hi
      rw [aesR_succ, aesR_succ] at this
      exact UInt8.xor_left_inj _ |>.1 this
    by_cases hn : n + 1 < 10
    · simp only [if_pos hn] at h'
      exact colsN_inj 4 (by omega) h'
    · simpa only [if_neg hn] using h'

theorem cut16 (f : Nat → UInt8) {i : Nat} (hi : i < 16) : ((List.range 16).map fun i => f i).getD i 0 = f i := by
  simp [List.getD, hi]
theorem aesR_congr {k k' s s' : Nat → UInt8} (hk : ∀ i, i < 176 → k i = k' i) (hs : ∀ i, i < 16 → s i = s' i) : ∀ n, n ≤ 10 → ∀ i, i < 16 → aesR k s n i = aesR k' s' n i
  | 0, _ => fun i hi => by show s i ^^^ k i = s' i ^^^ k' i; rw [hs i hi, hk i (by omega)]
  | n + 1, hn => fun i hi => by
    rw [aesR_succ, aesR_succ, subs_congr (aesR_congr hk hs n (by omega))]
    show _ ^^^ k _ = _ ^^^ k' _
    rw [hk _ (by omega)]
theorem apart_law (k g h : Nat → UInt8) : ((List.map (fun i => aesR k (fun i => ((List.range 16).map fun i => g i).getD i 0) 10 i) (List.range 16) ==
    List.map (fun i => aesR k (fun i => ((List.range 16).map fun i => h i).getD i 0) 10 i) (List.range 16)) == (List.range 16).all fun i => g i == h i) = true := by
  rw [beq_iff_eq, Bool.eq_iff_iff, beq_iff_eq, List.all_eq_true]
  simp only [List.map_inj_left, List.mem_range, beq_iff_eq]
  constructor
  · intro e i hi
    have := aes_inj 10 e i hi
    simp only [cut16 _ hi] at this
    exact this
  · intro e i hi
    refine aesR_congr (fun _ _ => rfl) (fun i hi => ?_) 10 (by omega) i hi
    simp only [cut16 _ hi]
    exact e i hi

end Go.Proofs.YtmoaddicejohgaaDoor
