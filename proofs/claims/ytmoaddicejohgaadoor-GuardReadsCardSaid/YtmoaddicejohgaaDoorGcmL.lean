/- Walks of layer 4's laws: sealed, cut, none; and of GcmTimes. No conditions. -/
import Derived.Test.YtmoaddicejohgaaDoorGcmS
set_option linter.unusedSimpArgs false
set_option linter.unusedVariables false
set_option maxRecDepth 100000
set_option maxHeartbeats 4000000
namespace Go.Proofs.YtmoaddicejohgaaDoor
open Go
open List (getD_cons_zero getD_cons_succ set_cons_zero set_cons_succ)

def zKL : List UInt8 := [0, 0, 0, 0, 0, 0, 0, 0, 0, 0, 0, 0, 0, 0, 0, 0, 98, 99, 99, 99, 98, 99, 99, 99, 98, 99, 99, 99, 98, 99, 99, 99, 155, 152, 152, 201, 249, 251, 251, 170, 155, 152, 152, 201, 249, 251, 251, 170, 144, 151, 52, 80, 105, 108, 207, 250, 242, 244, 87, 51, 11, 15, 172, 153, 238, 6, 218, 123, 135, 106, 21, 129, 117, 158, 66, 178, 126, 145, 238, 43, 127, 46, 43, 136, 248, 68, 62, 9, 141, 218, 124, 187, 243, 75, 146, 144, 236, 97, 75, 133, 20, 37, 117, 140, 153, 255, 9, 55, 106, 180, 155, 167, 33, 117, 23, 135, 53, 80, 98, 11, 172, 175, 107, 60, 198, 27, 240, 155, 14, 249, 3, 51, 59, 169, 97, 56, 151, 6, 10, 4, 81, 29, 250, 159, 177, 212, 216, 226, 138, 125, 185, 218, 29, 123, 179, 222, 76, 102, 73, 65, 180, 239, 91, 203, 62, 146, 226, 17, 35, 233, 81, 207, 111, 143, 24, 142]
def zB (i : Nat) : UInt8 := if i = 15 then 1 else 0
theorem z_key (i : Nat) (hi : i < 176) : kexp (fun _ => 0) i = zKL.getD i 0 := by
  refine kexp_is _ (fun n => zKL.getD n 0) 176 (fun n hn => ?_) i hi
  have : ((List.range 176).all fun n => (if n < 16 then 0
    else if n % 16 < 4 then zKL.getD (n - 16) 0 ^^^ (sbox (zKL.getD (n - n % 16 - 4 + (n % 16 + 1) % 4) 0).toNat ^^^ (if n % 16 = 0 then conN (n / 16 - 1) else 0))
    else zKL.getD (n - 16) 0 ^^^ zKL.getD (n - 4) 0) == zKL.getD n 0) = true := by kernel_rfl
  exact eq_of_beq (List.all_eq_true.1 this n (List.mem_range.2 hn))
theorem z_r0 (i : Nat) (hi : i < 16) : aesR (kexp fun _ => 0) zB 0 i = ([0, 0, 0, 0, 0, 0, 0, 0, 0, 0, 0, 0, 0, 0, 0, 1] : List UInt8).getD i 0 := by
  show zB i ^^^ kexp _ i = _
  rw [z_key i (by omega)]
  have : ((List.range 16).all fun i => (zB i ^^^ zKL.getD i 0) == ([0, 0, 0, 0, 0, 0, 0, 0, 0, 0, 0, 0, 0, 0, 0, 1] : List UInt8).getD i 0) = true := by kernel_rfl
  exact eq_of_beq (List.all_eq_true.1 this i (List.mem_range.2 hi))

theorem z_r1 : ∀ i, i < 16 → aesR (kexp fun _ => 0) zB 1 i = [30, 31, 33, 62, 1, 0, 0, 0, 1, 0, 0, 0, 1, 0, 0, 0].getD i 0 :=
  aes_step _ (fun i => zKL.getD i 0) _ 0 [0, 0, 0, 0, 0, 0, 0, 0, 0, 0, 0, 0, 0, 0, 0, 1] [30, 31, 33, 62, 1, 0, 0, 0, 1, 0, 0, 0, 1, 0, 0, 0] z_key (by decide) z_r0 (by kernel_rfl)

theorem z_r2 : ∀ i, i < 16 → aesR (kexp fun _ => 0) zB 2 i = [218, 234, 234, 153, 117, 86, 239, 81, 88, 93, 195, 21, 90, 218, 36, 75].getD i 0 :=
  aes_step _ (fun i => zKL.getD i 0) _ 1 [30, 31, 33, 62, 1, 0, 0, 0, 1, 0, 0, 0, 1, 0, 0, 0] [218, 234, 234, 153, 117, 86, 239, 81, 88, 93, 195, 21, 90, 218, 36, 75] z_key (by decide) z_r1 (by kernel_rfl)

theorem z_r3 : ∀ i, i < 16 → aesR (kexp fun _ => 0) zB 3 i = [107, 120, 64, 75, 68, 221, 91, 251, 137, 115, 23, 228, 120, 135, 219, 170].getD i 0 :=
  aes_step _ (fun i => zKL.getD i 0) _ 2 [218, 234, 234, 153, 117, 86, 239, 81, 88, 93, 195, 21, 90, 218, 36, 75] [107, 120, 64, 75, 68, 221, 91, 251, 137, 115, 23, 228, 120, 135, 219, 170] z_key (by decide) z_r2 (by kernel_rfl)

theorem z_r4 : ∀ i, i < 16 → aesR (kexp fun _ => 0) zB 4 i = [20, 71, 112, 136, 49, 23, 38, 231, 31, 3, 241, 64, 146, 108, 39, 163].getD i 0 :=
  aes_step _ (fun i => zKL.getD i 0) _ 3 [107, 120, 64, 75, 68, 221, 91, 251, 137, 115, 23, 228, 120, 135, 219, 170] [20, 71, 112, 136, 49, 23, 38, 231, 31, 3, 241, 64, 146, 108, 39, 163] z_key (by decide) z_r3 (by kernel_rfl)

theorem z_r5 : ∀ i, i < 16 → aesR (kexp fun _ => 0) zB 5 i = [48, 221, 102, 216, 232, 254, 86, 127, 35, 221, 233, 210, 104, 84, 147, 4].getD i 0 :=
  aes_step _ (fun i => zKL.getD i 0) _ 4 [20, 71, 112, 136, 49, 23, 38, 231, 31, 3, 241, 64, 146, 108, 39, 163] [48, 221, 102, 216, 232, 254, 86, 127, 35, 221, 233, 210, 104, 84, 147, 4] z_key (by decide) z_r4 (by kernel_rfl)

theorem z_r6 : ∀ i, i < 16 → aesR (kexp fun _ => 0) zB 6 i = [222, 216, 197, 211, 220, 57, 47, 229, 84, 30, 4, 241, 188, 21, 162, 105].getD i 0 :=
  aes_step _ (fun i => zKL.getD i 0) _ 5 [48, 221, 102, 216, 232, 254, 86, 127, 35, 221, 233, 210, 104, 84, 147, 4] [222, 216, 197, 211, 220, 57, 47, 229, 84, 30, 4, 241, 188, 21, 162, 105] z_key (by decide) z_r5 (by kernel_rfl)

theorem z_r7 : ∀ i, i < 16 → aesR (kexp fun _ => 0) zB 7 i = [38, 184, 247, 169, 232, 26, 72, 30, 120, 21, 53, 10, 27, 34, 38, 25].getD i 0 :=
  aes_step _ (fun i => zKL.getD i 0) _ 6 [222, 216, 197, 211, 220, 57, 47, 229, 84, 30, 4, 241, 188, 21, 162, 105] [38, 184, 247, 169, 232, 26, 72, 30, 120, 21, 53, 10, 27, 34, 38, 25] z_key (by decide) z_r6 (by kernel_rfl)

theorem z_r8 : ∀ i, i < 16 → aesR (kexp fun _ => 0) zB 8 i = [68, 36, 6, 182, 217, 81, 56, 157, 64, 77, 99, 196, 149, 251, 52, 133].getD i 0 :=
  aes_step _ (fun i => zKL.getD i 0) _ 7 [38, 184, 247, 169, 232, 26, 72, 30, 120, 21, 53, 10, 27, 34, 38, 25] [68, 36, 6, 182, 217, 81, 56, 157, 64, 77, 99, 196, 149, 251, 52, 133] z_key (by decide) z_r7 (by kernel_rfl)

theorem z_r9 : ∀ i, i < 16 → aesR (kexp fun _ => 0) zB 9 i = [131, 247, 93, 208, 136, 243, 141, 226, 47, 131, 137, 25, 89, 53, 127, 54].getD i 0 :=
  aes_step _ (fun i => zKL.getD i 0) _ 8 [68, 36, 6, 182, 217, 81, 56, 157, 64, 77, 99, 196, 149, 251, 52, 133] [131, 247, 93, 208, 136, 243, 141, 226, 47, 131, 137, 25, 89, 53, 127, 54] z_key (by decide) z_r8 (by kernel_rfl)

theorem z_r10 : ∀ i, i < 16 → aesR (kexp fun _ => 0) zB 10 i = [88, 226, 252, 206, 250, 126, 48, 97, 54, 127, 29, 87, 164, 231, 69, 90].getD i 0 :=
  aes_step _ (fun i => zKL.getD i 0) _ 9 [131, 247, 93, 208, 136, 243, 141, 226, 47, 131, 137, 25, 89, 53, 127, 54] [88, 226, 252, 206, 250, 126, 48, 97, 54, 127, 29, 87, 164, 231, 69, 90] z_key (by decide) z_r9 (by kernel_rfl)

theorem mulP_zero (h : P2) : mulP (0, 0) h = (0, 0) := pw_inj (by rw [pw_mul, pw_zero, gm_zero_l])
theorem zeros_fun (n : Nat) : (fun i => ((List.range n).map fun _ => (0 : UInt8)).getD i 0) = fun _ => 0 := funext (zeros_getD n)
theorem z_sealed (K : Nat → UInt8) (h : P2) (hK : K = kexp fun i => ((List.range 16).map fun _ => (0 : UInt8)).getD i 0) (i : Nat) (hi : i < 16) :
    (sealedL K h ((List.range 12).map fun _ => 0) [] []).getD i 0 = ([88, 226, 252, 206, 250, 126, 48, 97, 54, 127, 29, 87, 164, 231, 69, 90] : List UInt8).getD i 0 := by
  subst hK
  rw [zeros_fun]
  have e0 : hidL (kexp fun _ => 0) ((List.range 12).map fun _ => 0) [] = [] := rfl
  unfold sealedL
  rw [e0, List.nil_append]
  have e1 : sealP h [] [] = (0, 0) := (congrArg (fun x => mulP x h) (by kernel_rfl : ((takeP h (takeP h (0, 0) [] (blocks [])) [] (blocks [])).1 ^^^ UInt64.ofNat ([] : List UInt8).length <<< 3, (takeP h (takeP h (0, 0) [] (blocks [])) [] (blocks [])).2 ^^^ UInt64.ofNat ([] : List UInt8).length <<< 3) = ((0, 0) : P2))).trans (mulP_zero h)
  unfold sealL
  rw [strm_at _ _ _ _ hi, e1, Nat.zero_add, ks_head _ _ _ hi, ← z_r10 i hi]
  have e2 : ((List.range 16).map (nbP (0, 0))).getD i 0 = nbP (0, 0) i := cut16 _ hi
  have e3 : nbP (0, 0) i = 0 := by
    have : ((List.range 16).all fun i => nbP (0, 0) i == 0) = true := by kernel_rfl
    exact eq_of_beq (List.all_eq_true.1 this i (List.mem_range.2 hi))
  rw [e2, e3, UInt8.zero_xor]
  refine aesR_congr (fun _ _ => rfl) (fun j hj => ?_) 10 (Nat.le_refl _) i hi
  have : ((List.range 16).all fun i => gctr ((List.range 12).map fun _ => 0) 1 i == zB i) = true := by kernel_rfl
  exact eq_of_beq (List.all_eq_true.1 this j (List.mem_range.2 hj))
theorem sealedL_len (K : Nat → UInt8) (h : P2) (nl al bl : List UInt8) : (sealedL K h nl al bl).length = bl.length + 16 := by
  unfold sealedL; rw [List.length_append, hidL_len, sealL_len]

theorem mulP_comm (a b : P2) : mulP a b = mulP b a := pw_inj (by rw [pw_mul, pw_mul, gm_comm (pw_lt a) (pw_lt b)])
theorem mulP_assoc (a b c : P2) : mulP (mulP a b) c = mulP a (mulP b c) := pw_inj (by rw [pw_mul, pw_mul, pw_mul, pw_mul, gm_assoc (pw_lt a) (pw_lt b) (pw_lt c)])
theorem mulP_xor (a b c : P2) : mulP a (b.1 ^^^ c.1, b.2 ^^^ c.2) = ((mulP a b).1 ^^^ (mulP a c).1, (mulP a b).2 ^^^ (mulP a c).2) := pw_inj (by rw [pw_mul, pw_xor, pw_xor, pw_mul, pw_mul, gm_xor_r])
theorem of_xor (f g : Nat → UInt8) : ofP (fun j => f j ^^^ g j) = ((ofP f).1 ^^^ (ofP g).1, (ofP f).2 ^^^ (ofP g).2) :=
  (ofP_congr fun j hj => by rw [nb_xor _ _ j hj, nb_of f j hj, nb_of g j hj]).trans (of_nb _)
theorem times_doc (f g : Nat → UInt8) : (List.range 16).map (fun i => nbP (mulP (ofP f) (ofP g)) i) = (strP (mulP (ofP fun i => ((List.range 16).map f).getD i 0) (ofP fun i => ((List.range 16).map g).getD i 0))).data.toList := by
  rw [ofP_congr fun i hi => cut16 f hi, ofP_congr fun i hi => cut16 g hi]; rfl
theorem all_beq {f g : Nat → UInt8} (h : ∀ i, i < 16 → f i = g i) : ((List.range 16).all fun i => f i == g i) = true := by
  rw [List.all_eq_true]
  intro i hi
  rw [beq_iff_eq]; exact h i (List.mem_range.1 hi)

end Go.Proofs.YtmoaddicejohgaaDoor
