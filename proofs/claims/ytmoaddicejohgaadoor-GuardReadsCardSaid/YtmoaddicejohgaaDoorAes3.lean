/- Walks of the document's AES: twice, times, Sub, table, Ready, Block; and of the law AesBlock. No conditions. -/
import Derived.Test.YtmoaddicejohgaaDoorAes2
set_option linter.unusedSimpArgs false
set_option linter.unusedVariables false
set_option maxRecDepth 100000
set_option maxHeartbeats 4000000
namespace Go.Proofs.YtmoaddicejohgaaDoor
open Go
open List (getD_cons_zero getD_cons_succ set_cons_zero set_cons_succ)

theorem dbl_hi {x : UInt8} (h : 128 ≤ x) : x <<< 1 ^^^ 27 = dbl x := by
  have h1 : x >>> 7 = 1 := UInt8.toNat_inj.1 (by
    rw [UInt8.toNat_shiftRight]; have := x.toNat_lt; have h2 : 128 ≤ x.toNat := UInt8.le_iff_toNat_le.1 h
    show x.toNat >>> 7 = 1
    rw [Nat.shiftRight_eq_div_pow]; omega)
  unfold dbl; rw [h1]; rfl
theorem dbl_lo {x : UInt8} (h : ¬ 128 ≤ x) : x <<< 1 = dbl x := by
  have h1 : x >>> 7 = 0 := UInt8.toNat_inj.1 (by
    rw [UInt8.toNat_shiftRight]; have h2 : ¬ 128 ≤ x.toNat := fun h3 => h (UInt8.le_iff_toNat_le.2 h3)
    show x.toNat >>> 7 = 0
    rw [Nat.shiftRight_eq_div_pow]; omega)
  unfold dbl; rw [h1]; simp
/-- The product of two bytes, as the document reckons it. -/
def tmsN : Nat → UInt8 → UInt8 → UInt8 → UInt8
  | 0, o, _, _ => o
  | n + 1, o, x, y => if 0 < y then tmsN n (if y % 2 = 1 then o ^^^ x else o) (dbl x) (y / 2) else o
def tms (x y : UInt8) : UInt8 := tmsN 8 0 x y
theorem tms_odd {n : Nat} {o x y : UInt8} (h : 0 < y) (h1 : y % 2 = 1) : tmsN (n + 1) o x y = tmsN n (o ^^^ x) (dbl x) (y / 2) := by
  rw [tmsN, if_pos h, if_pos h1]
theorem tms_even {n : Nat} {o x y : UInt8} (h : 0 < y) (h1 : ¬ y % 2 = 1) : tmsN (n + 1) o x y = tmsN n o (dbl x) (y / 2) := by
  rw [tmsN, if_pos h, if_neg h1]
theorem tms_end {n : Nat} {o x y : UInt8} (h : ¬ 0 < y) : tmsN n o x y = o := by
  cases n with
  | zero => rfl
  | succ n => rw [tmsN, if_neg h]
theorem tms_half {n : Nat} {y : UInt8} (h : y.toNat < 2 ^ (n + 1)) : (y / 2).toNat < 2 ^ n := by
  rw [UInt8.toNat_div, Nat.pow_succ] at *
  show y.toNat / 2 < _
  omega
theorem tms_some {n : Nat} {y : UInt8} (h : y.toNat < 2 ^ n) (h0 : 0 < y) : ∃ m, n = m + 1 := by
  cases n with
  | zero =>
    have : 0 < y.toNat := UInt8.lt_iff_toNat_lt.1 h0
    simp at h; omega
  | succ n => exact ⟨n, rfl⟩
def pN (x : UInt8) : Nat → UInt8
  | 0 => x
  | k + 1 => tms (pN x k) (pN x k)
def invN (x : UInt8) : Nat → UInt8
  | 0 => 1
  | k + 1 => tms (invN x k) (pN x (k + 1))
def outN (v : UInt8) : Nat → UInt8
  | 0 => 99
  | k + 1 => outN v k ^^^ ((if k < 8 then v <<< UInt8.ofNat k else 0) ||| (if 8 - k < 8 then v >>> UInt8.ofNat (8 - k) else 0))
theorem tab_is {g : UInt8 → UInt8} {l : List UInt8} (h : ((List.range 256).all fun n => g (UInt8.ofNat n) == l.getD n 0) = true) (x : UInt8) : g x = l.getD x.toNat 0 := by
  have := eq_of_beq (List.all_eq_true.1 h x.toNat (List.mem_range.2 x.toNat_lt))
  rwa [UInt8.ofNat_toNat] at this
theorem p_step {k : Nat} {l l' : List UInt8} (h : ∀ x, pN x k = l.getD x.toNat 0) (h' : ((List.range 256).all fun n => tms (l.getD n 0) (l.getD n 0) == l'.getD n 0) = true) (x : UInt8) : pN x (k + 1) = l'.getD x.toNat 0 := by
  show tms (pN x k) (pN x k) = _
  rw [h]
  exact eq_of_beq (List.all_eq_true.1 h' x.toNat (List.mem_range.2 x.toNat_lt))
theorem inv_step {k : Nat} {l l' l'' : List UInt8} (h : ∀ x, invN x k = l.getD x.toNat 0) (hp : ∀ x, pN x (k + 1) = l'.getD x.toNat 0) (h' : ((List.range 256).all fun n => tms (l.getD n 0) (l'.getD n 0) == l''.getD n 0) = true) (x : UInt8) : invN x (k + 1) = l''.getD x.toNat 0 := by
  show tms (invN x k) (pN x (k + 1)) = _
  rw [h, hp]
  exact eq_of_beq (List.all_eq_true.1 h' x.toNat (List.mem_range.2 x.toNat_lt))

def pL0 : List UInt8 := [0, 1, 2, 3, 4, 5, 6, 7, 8, 9, 10, 11, 12, 13, 14, 15, 16, 17, 18, 19, 20, 21, 22, 23, 24, 25, 26, 27, 28, 29, 30, 31, 32, 33, 34, 35, 36, 37, 38, 39, 40, 41, 42, 43, 44, 45, 46, 47, 48, 49, 50, 51, 52, 53, 54, 55, 56, 57, 58, 59, 60, 61, 62, 63, 64, 65, 66, 67, 68, 69, 70, 71, 72, 73, 74, 75, 76, 77, 78, 79, 80, 81, 82, 83, 84, 85, 86, 87, 88, 89, 90, 91, 92, 93, 94, 95, 96, 97, 98, 99, 100, 101, 102, 103, 104, 105, 106, 107, 108, 109, 110, 111, 112, 113, 114, 115, 116, 117, 118, 119, 120, 121, 122, 123, 124, 125, 126, 127, 128, 129, 130, 131, 132, 133, 134, 135, 136, 137, 138, 139, 140, 141, 142, 143, 144, 145, 146, 147, 148, 149, 150, 151, 152, 153, 154, 155, 156, 157, 158, 159, 160, 161, 162, 163, 164, 165, 166, 167, 168, 169, 170, 171, 172, 173, 174, 175, 176, 177, 178, 179, 180, 181, 182, 183, 184, 185, 186, 187, 188, 189, 190, 191, 192, 193, 194, 195, 196, 197, 198, 199, 200, 201, 202, 203, 204, 205, 206, 207, 208, 209, 210, 211, 212, 213, 214, 215, 216, 217, 218, 219, 220, 221, 222, 223, 224, 225, 226, 227, 228, 229, 230, 231, 232, 233, 234, 235, 236, 237, 238, 239, 240, 241, 242, 243, 244, 245, 246, 247, 248, 249, 250, 251, 252, 253, 254, 255]
def iL0 : List UInt8 := [1, 1, 1, 1, 1, 1, 1, 1, 1, 1, 1, 1, 1, 1, 1, 1, 1, 1, 1, 1, 1, 1, 1, 1, 1, 1, 1, 1, 1, 1, 1, 1, 1, 1, 1, 1, 1, 1, 1, 1, 1, 1, 1, 1, 1, 1, 1, 1, 1, 1, 1, 1, 1, 1, 1, 1, 1, 1, 1, 1, 1, 1, 1, 1, 1, 1, 1, 1, 1, 1, 1, 1, 1, 1, 1, 1, 1, 1, 1, 1, 1, 1, 1, 1, 1, 1, 1, 1, 1, 1, 1, 1, 1, 1, 1, 1, 1, 1, 1, 1, 1, 1, 1, 1, 1, 1, 1, 1, 1, 1, 1, 1, 1, 1, 1, 1, 1, 1, 1, 1, 1, 1, 1, 1, 1, 1, 1, 1, 1, 1, 1, 1, 1, 1, 1, 1, 1, 1, 1, 1, 1, 1, 1, 1, 1, 1, 1, 1, 1, 1, 1, 1, 1, 1, 1, 1, 1, 1, 1, 1, 1, 1, 1, 1, 1, 1, 1, 1, 1, 1, 1, 1, 1, 1, 1, 1, 1, 1, 1, 1, 1, 1, 1, 1, 1, 1, 1, 1, 1, 1, 1, 1, 1, 1, 1, 1, 1, 1, 1, 1, 1, 1, 1, 1, 1, 1, 1, 1, 1, 1, 1, 1, 1, 1, 1, 1, 1, 1, 1, 1, 1, 1, 1, 1, 1, 1, 1, 1, 1, 1, 1, 1, 1, 1, 1, 1, 1, 1, 1, 1, 1, 1, 1, 1, 1, 1, 1, 1, 1, 1, 1, 1, 1, 1, 1, 1]

def pL1 : List UInt8 := [0, 1, 4, 5, 16, 17, 20, 21, 64, 65, 68, 69, 80, 81, 84, 85, 27, 26, 31, 30, 11, 10, 15, 14, 91, 90, 95, 94, 75, 74, 79, 78, 108, 109, 104, 105, 124, 125, 120, 121, 44, 45, 40, 41, 60, 61, 56, 57, 119, 118, 115, 114, 103, 102, 99, 98, 55, 54, 51, 50, 39, 38, 35, 34, 171, 170, 175, 174, 187, 186, 191, 190, 235, 234, 239, 238, 251, 250, 255, 254, 176, 177, 180, 181, 160, 161, 164, 165, 240, 241, 244, 245, 224, 225, 228, 229, 199, 198, 195, 194, 215, 214, 211, 210, 135, 134, 131, 130, 151, 150, 147, 146, 220, 221, 216, 217, 204, 205, 200, 201, 156, 157, 152, 153, 140, 141, 136, 137, 154, 155, 158, 159, 138, 139, 142, 143, 218, 219, 222, 223, 202, 203, 206, 207, 129, 128, 133, 132, 145, 144, 149, 148, 193, 192, 197, 196, 209, 208, 213, 212, 246, 247, 242, 243, 230, 231, 226, 227, 182, 183, 178, 179, 166, 167, 162, 163, 237, 236, 233, 232, 253, 252, 249, 248, 173, 172, 169, 168, 189, 188, 185, 184, 49, 48, 53, 52, 33, 32, 37, 36, 113, 112, 117, 116, 97, 96, 101, 100, 42, 43, 46, 47, 58, 59, 62, 63, 106, 107, 110, 111, 122, 123, 126, 127, 93, 92, 89, 88, 77, 76, 73, 72, 29, 28, 25, 24, 13, 12, 9, 8, 70, 71, 66, 67, 86, 87, 82, 83, 6, 7, 2, 3, 22, 23, 18, 19]
def iL1 : List UInt8 := [0, 1, 4, 5, 16, 17, 20, 21, 64, 65, 68, 69, 80, 81, 84, 85, 27, 26, 31, 30, 11, 10, 15, 14, 91, 90, 95, 94, 75, 74, 79, 78, 108, 109, 104, 105, 124, 125, 120, 121, 44, 45, 40, 41, 60, 61, 56, 57, 119, 118, 115, 114, 103, 102, 99, 98, 55, 54, 51, 50, 39, 38, 35, 34, 171, 170, 175, 174, 187, 186, 191, 190, 235, 234, 239, 238, 251, 250, 255, 254, 176, 177, 180, 181, 160, 161, 164, 165, 240, 241, 244, 245, 224, 225, 228, 229, 199, 198, 195, 194, 215, 214, 211, 210, 135, 134, 131, 130, 151, 150, 147, 146, 220, 221, 216, 217, 204, 205, 200, 201, 156, 157, 152, 153, 140, 141, 136, 137, 154, 155, 158, 159, 138, 139, 142, 143, 218, 219, 222, 223, 202, 203, 206, 207, 129, 128, 133, 132, 145, 144, 149, 148, 193, 192, 197, 196, 209, 208, 213, 212, 246, 247, 242, 243, 230, 231, 226, 227, 182, 183, 178, 179, 166, 167, 162, 163, 237, 236, 233, 232, 253, 252, 249, 248, 173, 172, 169, 168, 189, 188, 185, 184, 49, 48, 53, 52, 33, 32, 37, 36, 113, 112, 117, 116, 97, 96, 101, 100, 42, 43, 46, 47, 58, 59, 62, 63, 106, 107, 110, 111, 122, 123, 126, 127, 93, 92, 89, 88, 77, 76, 73, 72, 29, 28, 25, 24, 13, 12, 9, 8, 70, 71, 66, 67, 86, 87, 82, 83, 6, 7, 2, 3, 22, 23, 18, 19]

def pL2 : List UInt8 := [0, 1, 16, 17, 27, 26, 11, 10, 171, 170, 187, 186, 176, 177, 160, 161, 94, 95, 78, 79, 69, 68, 85, 84, 245, 244, 229, 228, 238, 239, 254, 255, 151, 150, 135, 134, 140, 141, 156, 157, 60, 61, 44, 45, 39, 38, 55, 54, 201, 200, 217, 216, 210, 211, 194, 195, 98, 99, 114, 115, 121, 120, 105, 104, 179, 178, 163, 162, 168, 169, 184, 185, 24, 25, 8, 9, 3, 2, 19, 18, 237, 236, 253, 252, 246, 247, 230, 231, 70, 71, 86, 87, 93, 92, 77, 76, 36, 37, 52, 53, 63, 62, 47, 46, 143, 142, 159, 158, 148, 149, 132, 133, 122, 123, 106, 107, 97, 96, 113, 112, 209, 208, 193, 192, 202, 203, 218, 219, 197, 196, 213, 212, 222, 223, 206, 207, 110, 111, 126, 127, 117, 116, 101, 100, 155, 154, 139, 138, 128, 129, 144, 145, 48, 49, 32, 33, 43, 42, 59, 58, 82, 83, 66, 67, 73, 72, 89, 88, 249, 248, 233, 232, 226, 227, 242, 243, 12, 13, 28, 29, 23, 22, 7, 6, 167, 166, 183, 182, 188, 189, 172, 173, 118, 119, 102, 103, 109, 108, 125, 124, 221, 220, 205, 204, 198, 199, 214, 215, 40, 41, 56, 57, 51, 50, 35, 34, 131, 130, 147, 146, 152, 153, 136, 137, 225, 224, 241, 240, 250, 251, 234, 235, 74, 75, 90, 91, 81, 80, 65, 64, 191, 190, 175, 174, 164, 165, 180, 181, 20, 21, 4, 5, 15, 14, 31, 30]
def iL2 : List UInt8 := [0, 1, 64, 85, 171, 161, 156, 130, 99, 137, 213, 43, 12, 237, 205, 56, 179, 247, 59, 107, 209, 158, 46, 117, 45, 130, 83, 232, 139, 47, 130, 50, 57, 195, 137, 103, 66, 179, 133, 96, 202, 219, 140, 137, 117, 111, 68, 74, 181, 10, 205, 102, 7, 179, 8, 168, 187, 239, 53, 117, 205, 146, 52, 127, 194, 219, 38, 43, 59, 41, 168, 174, 43, 217, 57, 223, 22, 239, 115, 158, 80, 12, 124, 52, 96, 55, 59, 120, 68, 243, 158, 61, 176, 12, 29, 181, 162, 64, 182, 64, 139, 98, 232, 21, 219, 210, 57, 36, 54, 52, 163, 181, 15, 168, 211, 96, 239, 67, 68, 252, 139, 199, 161, 249, 175, 232, 242, 161, 102, 56, 124, 54, 67, 22, 46, 111, 66, 247, 174, 15, 163, 29, 56, 146, 46, 53, 252, 243, 194, 210, 103, 99, 247, 7, 211, 55, 223, 36, 140, 99, 199, 98, 45, 156, 50, 156, 175, 21, 115, 61, 111, 53, 66, 7, 41, 120, 176, 80, 146, 102, 140, 103, 217, 38, 249, 242, 45, 50, 1, 1, 162, 182, 21, 83, 171, 249, 98, 47, 171, 242, 187, 22, 243, 74, 8, 174, 55, 133, 124, 127, 10, 29, 194, 202, 195, 223, 47, 199, 175, 83, 85, 182, 162, 85, 237, 80, 163, 10, 74, 252, 115, 209, 211, 133, 107, 41, 176, 237, 127, 54, 187, 67, 61, 209, 213, 38, 36, 195, 120, 107, 8, 15, 210, 202, 213, 217]

def pL3 : List UInt8 := [0, 1, 27, 26, 94, 95, 69, 68, 179, 178, 168, 169, 237, 236, 246, 247, 228, 229, 255, 254, 186, 187, 161, 160, 87, 86, 76, 77, 9, 8, 18, 19, 148, 149, 143, 142, 202, 203, 209, 208, 39, 38, 60, 61, 121, 120, 98, 99, 112, 113, 107, 106, 46, 47, 53, 52, 195, 194, 216, 217, 157, 156, 134, 135, 232, 233, 243, 242, 182, 183, 173, 172, 91, 90, 64, 65, 5, 4, 30, 31, 12, 13, 23, 22, 82, 83, 73, 72, 191, 190, 164, 165, 225, 224, 250, 251, 124, 125, 103, 102, 34, 35, 57, 56, 207, 206, 212, 213, 145, 144, 138, 139, 152, 153, 131, 130, 198, 199, 221, 220, 43, 42, 48, 49, 117, 116, 110, 111, 32, 33, 59, 58, 126, 127, 101, 100, 147, 146, 136, 137, 205, 204, 214, 215, 196, 197, 223, 222, 154, 155, 129, 128, 119, 118, 108, 109, 41, 40, 50, 51, 180, 181, 175, 174, 234, 235, 241, 240, 7, 6, 28, 29, 89, 88, 66, 67, 80, 81, 75, 74, 14, 15, 21, 20, 227, 226, 248, 249, 189, 188, 166, 167, 200, 201, 211, 210, 150, 151, 141, 140, 123, 122, 96, 97, 37, 36, 62, 63, 44, 45, 55, 54, 114, 115, 105, 104, 159, 158, 132, 133, 193, 192, 218, 219, 92, 93, 71, 70, 2, 3, 25, 24, 239, 238, 244, 245, 177, 176, 170, 171, 184, 185, 163, 162, 230, 231, 253, 252, 11, 10, 16, 17, 85, 84, 78, 79]
def iL3 : List UInt8 := [0, 1, 154, 19, 197, 30, 214, 243, 102, 167, 174, 35, 176, 225, 178, 217, 32, 79, 24, 165, 62, 67, 115, 170, 144, 20, 254, 108, 191, 99, 231, 91, 198, 42, 192, 23, 223, 106, 55, 207, 104, 210, 34, 103, 135, 46, 96, 64, 86, 71, 61, 77, 202, 74, 179, 36, 199, 171, 228, 45, 143, 56, 253, 153, 211, 227, 85, 181, 162, 105, 136, 229, 150, 248, 194, 184, 78, 145, 245, 72, 237, 92, 238, 213, 233, 107, 186, 196, 222, 26, 11, 129, 81, 236, 151, 18, 133, 114, 124, 232, 221, 82, 239, 117, 49, 14, 4, 156, 37, 40, 152, 68, 73, 172, 250, 38, 58, 111, 190, 164, 98, 100, 25, 226, 127, 131, 112, 7, 116, 121, 209, 16, 48, 168, 84, 118, 220, 21, 119, 182, 137, 159, 160, 200, 39, 203, 187, 193, 141, 60, 44, 125, 90, 89, 204, 157, 195, 215, 43, 27, 28, 130, 22, 247, 169, 33, 5, 132, 66, 142, 88, 47, 3, 147, 252, 161, 12, 224, 240, 57, 9, 59, 175, 206, 110, 251, 134, 242, 189, 188, 76, 218, 241, 244, 29, 140, 208, 97, 216, 139, 185, 230, 219, 212, 51, 146, 246, 113, 63, 52, 205, 8, 94, 41, 180, 123, 2, 120, 122, 10, 234, 166, 201, 249, 177, 13, 17, 138, 148, 31, 183, 109, 54, 70, 6, 149, 93, 80, 173, 53, 126, 95, 15, 83, 69, 155, 75, 158, 101, 163, 128, 255, 50, 65, 235, 87]

def pL4 : List UInt8 := [0, 1, 94, 95, 228, 229, 186, 187, 232, 233, 182, 183, 12, 13, 82, 83, 77, 76, 19, 18, 169, 168, 247, 246, 165, 164, 251, 250, 65, 64, 31, 30, 145, 144, 207, 206, 117, 116, 43, 42, 121, 120, 39, 38, 157, 156, 195, 194, 220, 221, 130, 131, 56, 57, 102, 103, 52, 53, 106, 107, 208, 209, 142, 143, 29, 28, 67, 66, 249, 248, 167, 166, 245, 244, 171, 170, 17, 16, 79, 78, 80, 81, 14, 15, 180, 181, 234, 235, 184, 185, 230, 231, 92, 93, 2, 3, 140, 141, 210, 211, 104, 105, 54, 55, 100, 101, 58, 59, 128, 129, 222, 223, 193, 192, 159, 158, 37, 36, 123, 122, 41, 40, 119, 118, 205, 204, 147, 146, 108, 109, 50, 51, 136, 137, 214, 215, 132, 133, 218, 219, 96, 97, 62, 63, 33, 32, 127, 126, 197, 196, 155, 154, 201, 200, 151, 150, 45, 44, 115, 114, 253, 252, 163, 162, 25, 24, 71, 70, 21, 20, 75, 74, 241, 240, 175, 174, 176, 177, 238, 239, 84, 85, 10, 11, 88, 89, 6, 7, 188, 189, 226, 227, 113, 112, 47, 46, 149, 148, 203, 202, 153, 152, 199, 198, 125, 124, 35, 34, 60, 61, 98, 99, 216, 217, 134, 135, 212, 213, 138, 139, 48, 49, 110, 111, 224, 225, 190, 191, 4, 5, 90, 91, 8, 9, 86, 87, 236, 237, 178, 179, 173, 172, 243, 242, 73, 72, 23, 22, 69, 68, 27, 26, 161, 160, 255, 254]
def iL4 : List UInt8 := [0, 1, 57, 102, 54, 211, 53, 8, 74, 29, 171, 211, 1, 1, 211, 179, 99, 47, 179, 239, 102, 64, 171, 102, 57, 8, 57, 194, 171, 179, 8, 232, 232, 74, 29, 8, 8, 99, 64, 47, 53, 74, 194, 29, 102, 239, 53, 102, 54, 194, 211, 64, 54, 99, 47, 211, 102, 211, 8, 102, 211, 8, 239, 232, 239, 74, 99, 211, 179, 47, 211, 29, 211, 74, 232, 179, 194, 211, 29, 64, 1, 1, 99, 239, 47, 232, 179, 194, 53, 179, 64, 54, 1, 1, 53, 54, 74, 57, 47, 57, 171, 29, 194, 99, 74, 64, 232, 54, 29, 239, 171, 54, 53, 211, 171, 47, 211, 232, 53, 99, 171, 57, 211, 57, 64, 194, 239, 211, 64, 179, 99, 29, 232, 194, 171, 239, 8, 47, 29, 53, 171, 53, 179, 8, 171, 8, 99, 179, 239, 64, 8, 74, 47, 54, 171, 232, 179, 54, 194, 74, 57, 29, 57, 53, 232, 53, 64, 99, 29, 54, 239, 8, 8, 54, 47, 194, 1, 1, 8, 64, 194, 8, 74, 99, 57, 239, 57, 232, 1, 1, 74, 47, 99, 57, 54, 57, 29, 179, 54, 239, 102, 194, 179, 102, 47, 29, 232, 64, 99, 232, 194, 53, 239, 53, 74, 179, 179, 57, 64, 57, 102, 47, 74, 102, 1, 1, 171, 194, 102, 99, 29, 102, 171, 64, 239, 47, 1, 1, 232, 29, 102, 232, 54, 102, 171, 99, 54, 74, 194, 239, 47, 53, 64, 53, 171, 74]

def pL5 : List UInt8 := [0, 1, 228, 229, 77, 76, 169, 168, 29, 28, 249, 248, 80, 81, 180, 181, 250, 251, 30, 31, 183, 182, 83, 82, 231, 230, 3, 2, 170, 171, 78, 79, 128, 129, 100, 101, 205, 204, 41, 40, 157, 156, 121, 120, 208, 209, 52, 53, 122, 123, 158, 159, 55, 54, 211, 210, 103, 102, 131, 130, 42, 43, 206, 207, 74, 75, 174, 175, 7, 6, 227, 226, 87, 86, 179, 178, 26, 27, 254, 255, 176, 177, 84, 85, 253, 252, 25, 24, 173, 172, 73, 72, 224, 225, 4, 5, 202, 203, 46, 47, 135, 134, 99, 98, 215, 214, 51, 50, 154, 155, 126, 127, 48, 49, 212, 213, 125, 124, 153, 152, 45, 44, 201, 200, 96, 97, 132, 133, 151, 150, 115, 114, 218, 219, 62, 63, 138, 139, 110, 111, 199, 198, 35, 34, 109, 108, 137, 136, 32, 33, 196, 197, 112, 113, 148, 149, 61, 60, 217, 216, 23, 22, 243, 242, 90, 91, 190, 191, 10, 11, 238, 239, 71, 70, 163, 162, 237, 236, 9, 8, 160, 161, 68, 69, 240, 241, 20, 21, 189, 188, 89, 88, 221, 220, 57, 56, 144, 145, 116, 117, 192, 193, 36, 37, 141, 140, 105, 104, 39, 38, 195, 194, 106, 107, 142, 143, 58, 59, 222, 223, 119, 118, 147, 146, 93, 92, 185, 184, 16, 17, 244, 245, 64, 65, 164, 165, 13, 12, 233, 232, 167, 166, 67, 66, 234, 235, 14, 15, 186, 187, 94, 95, 247, 246, 19, 18]
def iL5 : List UInt8 := [0, 1, 216, 178, 106, 233, 185, 55, 211, 87, 195, 166, 80, 81, 79, 111, 131, 28, 173, 240, 172, 98, 219, 30, 147, 113, 75, 159, 24, 194, 70, 167, 16, 112, 248, 5, 50, 108, 174, 244, 234, 163, 73, 175, 25, 243, 83, 171, 63, 214, 21, 204, 85, 239, 232, 252, 181, 179, 116, 7, 90, 67, 3, 183, 47, 165, 205, 124, 52, 226, 149, 180, 218, 118, 53, 91, 65, 51, 227, 191, 176, 177, 78, 223, 254, 146, 153, 222, 109, 246, 221, 132, 224, 225, 212, 238, 213, 197, 22, 29, 186, 76, 8, 161, 6, 17, 37, 187, 27, 220, 121, 209, 135, 105, 97, 10, 128, 130, 62, 34, 162, 86, 207, 142, 115, 151, 44, 38, 250, 48, 168, 125, 208, 41, 26, 20, 60, 120, 42, 45, 217, 148, 95, 11, 193, 77, 43, 157, 228, 152, 122, 94, 100, 206, 2, 119, 242, 164, 182, 141, 18, 133, 202, 199, 192, 126, 84, 196, 210, 241, 231, 57, 14, 155, 140, 96, 237, 236, 72, 54, 255, 127, 46, 71, 129, 23, 89, 103, 189, 188, 253, 144, 101, 215, 74, 15, 201, 4, 32, 59, 35, 104, 107, 145, 154, 158, 229, 69, 230, 66, 247, 64, 203, 249, 251, 169, 198, 68, 39, 156, 143, 134, 40, 61, 93, 92, 160, 33, 58, 9, 49, 136, 99, 235, 200, 110, 13, 12, 245, 102, 150, 82, 117, 36, 123, 138, 31, 139, 190, 56, 114, 170, 137, 19, 184, 88]

def pL6 : List UInt8 := [0, 1, 77, 76, 250, 251, 183, 182, 74, 75, 7, 6, 176, 177, 253, 252, 2, 3, 79, 78, 248, 249, 181, 180, 72, 73, 5, 4, 178, 179, 255, 254, 154, 155, 215, 214, 96, 97, 45, 44, 208, 209, 157, 156, 42, 43, 103, 102, 152, 153, 213, 212, 98, 99, 47, 46, 210, 211, 159, 158, 40, 41, 101, 100, 239, 238, 162, 163, 21, 20, 88, 89, 165, 164, 232, 233, 95, 94, 18, 19, 237, 236, 160, 161, 23, 22, 90, 91, 167, 166, 234, 235, 93, 92, 16, 17, 117, 116, 56, 57, 143, 142, 194, 195, 63, 62, 114, 115, 197, 196, 136, 137, 119, 118, 58, 59, 141, 140, 192, 193, 61, 60, 112, 113, 199, 198, 138, 139, 148, 149, 217, 216, 110, 111, 35, 34, 222, 223, 147, 146, 36, 37, 105, 104, 150, 151, 219, 218, 108, 109, 33, 32, 220, 221, 145, 144, 38, 39, 107, 106, 14, 15, 67, 66, 244, 245, 185, 184, 68, 69, 9, 8, 190, 191, 243, 242, 12, 13, 65, 64, 246, 247, 187, 186, 70, 71, 11, 10, 188, 189, 241, 240, 123, 122, 54, 55, 129, 128, 204, 205, 49, 48, 124, 125, 203, 202, 134, 135, 121, 120, 52, 53, 131, 130, 206, 207, 51, 50, 126, 127, 201, 200, 132, 133, 225, 224, 172, 173, 27, 26, 86, 87, 171, 170, 230, 231, 81, 80, 28, 29, 227, 226, 174, 175, 25, 24, 84, 85, 169, 168, 228, 229, 83, 82, 30, 31]
def iL6 : List UInt8 := [0, 1, 179, 96, 232, 199, 168, 139, 53, 107, 127, 249, 12, 237, 83, 174, 29, 36, 137, 133, 182, 223, 67, 247, 21, 139, 124, 74, 50, 54, 139, 219, 99, 66, 107, 163, 46, 29, 59, 181, 161, 130, 85, 107, 247, 158, 43, 8, 140, 209, 83, 47, 120, 29, 171, 45, 41, 64, 211, 247, 83, 213, 175, 217, 102, 130, 68, 249, 137, 7, 45, 52, 249, 146, 99, 115, 117, 64, 111, 223, 80, 12, 15, 175, 181, 162, 137, 187, 43, 98, 223, 10, 176, 12, 239, 140, 103, 179, 61, 179, 50, 242, 74, 156, 130, 243, 99, 22, 194, 175, 55, 140, 205, 45, 57, 181, 64, 195, 43, 202, 50, 252, 199, 38, 56, 74, 210, 199, 47, 174, 15, 194, 195, 117, 67, 158, 46, 36, 52, 205, 55, 239, 174, 213, 67, 211, 202, 98, 102, 243, 163, 53, 36, 120, 57, 162, 115, 22, 85, 53, 252, 242, 21, 168, 219, 168, 56, 156, 111, 10, 158, 211, 46, 120, 7, 187, 176, 80, 213, 47, 85, 163, 146, 68, 38, 210, 21, 219, 1, 1, 103, 61, 156, 124, 232, 38, 242, 54, 232, 210, 41, 117, 98, 8, 171, 52, 162, 59, 15, 217, 209, 239, 102, 161, 66, 115, 54, 252, 56, 124, 96, 61, 103, 96, 237, 80, 55, 209, 8, 202, 111, 182, 57, 59, 133, 7, 176, 237, 217, 194, 41, 195, 10, 182, 127, 68, 22, 66, 187, 133, 171, 205, 243, 161, 127, 146]

def pL7 : List UInt8 := [0, 1, 250, 251, 2, 3, 248, 249, 239, 238, 21, 20, 237, 236, 23, 22, 4, 5, 254, 255, 6, 7, 252, 253, 235, 234, 17, 16, 233, 232, 19, 18, 197, 196, 63, 62, 199, 198, 61, 60, 42, 43, 208, 209, 40, 41, 210, 211, 193, 192, 59, 58, 195, 194, 57, 56, 46, 47, 212, 213, 44, 45, 214, 215, 8, 9, 242, 243, 10, 11, 240, 241, 231, 230, 29, 28, 229, 228, 31, 30, 12, 13, 246, 247, 14, 15, 244, 245, 227, 226, 25, 24, 225, 224, 27, 26, 205, 204, 55, 54, 207, 206, 53, 52, 34, 35, 216, 217, 32, 33, 218, 219, 201, 200, 51, 50, 203, 202, 49, 48, 38, 39, 220, 221, 36, 37, 222, 223, 145, 144, 107, 106, 147, 146, 105, 104, 126, 127, 132, 133, 124, 125, 134, 135, 149, 148, 111, 110, 151, 150, 109, 108, 122, 123, 128, 129, 120, 121, 130, 131, 84, 85, 174, 175, 86, 87, 172, 173, 187, 186, 65, 64, 185, 184, 67, 66, 80, 81, 170, 171, 82, 83, 168, 169, 191, 190, 69, 68, 189, 188, 71, 70, 153, 152, 99, 98, 155, 154, 97, 96, 118, 119, 140, 141, 116, 117, 142, 143, 157, 156, 103, 102, 159, 158, 101, 100, 114, 115, 136, 137, 112, 113, 138, 139, 92, 93, 166, 167, 94, 95, 164, 165, 179, 178, 73, 72, 177, 176, 75, 74, 88, 89, 162, 163, 90, 91, 160, 161, 183, 182, 77, 76, 181, 180, 79, 78]
def iL7 : List UInt8 := [0, 1, 141, 246, 203, 82, 123, 209, 232, 79, 41, 192, 176, 225, 229, 199, 116, 180, 170, 75, 153, 43, 96, 95, 88, 63, 253, 204, 255, 64, 238, 178, 58, 110, 90, 241, 85, 77, 168, 201, 193, 10, 152, 21, 48, 68, 162, 194, 44, 69, 146, 108, 243, 57, 102, 66, 242, 53, 32, 111, 119, 187, 89, 25, 29, 254, 55, 103, 45, 49, 245, 105, 167, 100, 171, 19, 84, 37, 233, 9, 237, 92, 5, 202, 76, 36, 135, 191, 24, 62, 34, 240, 81, 236, 97, 23, 22, 94, 175, 211, 73, 166, 54, 67, 244, 71, 145, 223, 51, 147, 33, 59, 121, 183, 151, 133, 16, 181, 186, 60, 182, 112, 208, 6, 161, 250, 129, 130, 131, 126, 127, 128, 150, 115, 190, 86, 155, 158, 149, 217, 247, 2, 185, 164, 222, 106, 50, 109, 216, 138, 132, 114, 42, 20, 159, 136, 249, 220, 137, 154, 251, 124, 46, 195, 143, 184, 101, 72, 38, 200, 18, 74, 206, 231, 210, 98, 12, 224, 31, 239, 17, 117, 120, 113, 165, 142, 118, 61, 189, 188, 134, 87, 11, 40, 47, 163, 218, 212, 228, 15, 169, 39, 83, 4, 27, 252, 172, 230, 122, 7, 174, 99, 197, 219, 226, 234, 148, 139, 196, 213, 157, 248, 144, 107, 177, 13, 214, 235, 198, 14, 207, 173, 8, 78, 215, 227, 93, 80, 30, 179, 91, 35, 56, 52, 104, 70, 3, 140, 221, 156, 125, 160, 205, 26, 65, 28]

theorem p_0 (x : UInt8) : pN x 0 = pL0.getD x.toNat 0 := tab_is (g := fun x => x) (by kernel_rfl) x
theorem inv_0 (x : UInt8) : invN x 0 = iL0.getD x.toNat 0 := tab_is (g := fun _ => 1) (by kernel_rfl) x

theorem p_1 (x : UInt8) : pN x 1 = pL1.getD x.toNat 0 := p_step p_0 (by kernel_rfl) x
theorem inv_1 (x : UInt8) : invN x 1 = iL1.getD x.toNat 0 := inv_step inv_0 p_1 (by kernel_rfl) x

theorem p_2 (x : UInt8) : pN x 2 = pL2.getD x.toNat 0 := p_step p_1 (by kernel_rfl) x
theorem inv_2 (x : UInt8) : invN x 2 = iL2.getD x.toNat 0 := inv_step inv_1 p_2 (by kernel_rfl) x

theorem p_3 (x : UInt8) : pN x 3 = pL3.getD x.toNat 0 := p_step p_2 (by kernel_rfl) x
theorem inv_3 (x : UInt8) : invN x 3 = iL3.getD x.toNat 0 := inv_step inv_2 p_3 (by kernel_rfl) x

theorem p_4 (x : UInt8) : pN x 4 = pL4.getD x.toNat 0 := p_step p_3 (by kernel_rfl) x
theorem inv_4 (x : UInt8) : invN x 4 = iL4.getD x.toNat 0 := inv_step inv_3 p_4 (by kernel_rfl) x

theorem p_5 (x : UInt8) : pN x 5 = pL5.getD x.toNat 0 := p_step p_4 (by kernel_rfl) x
theorem inv_5 (x : UInt8) : invN x 5 = iL5.getD x.toNat 0 := inv_step inv_4 p_5 (by kernel_rfl) x

theorem p_6 (x : UInt8) : pN x 6 = pL6.getD x.toNat 0 := p_step p_5 (by kernel_rfl) x
theorem inv_6 (x : UInt8) : invN x 6 = iL6.getD x.toNat 0 := inv_step inv_5 p_6 (by kernel_rfl) x

theorem p_7 (x : UInt8) : pN x 7 = pL7.getD x.toNat 0 := p_step p_6 (by kernel_rfl) x
theorem inv_7 (x : UInt8) : invN x 7 = iL7.getD x.toNat 0 := inv_step inv_6 p_7 (by kernel_rfl) x

theorem sub_is (x : UInt8) : outN (invN x 7) 5 = sbox x.toNat := by
  rw [inv_7]
  have h : ((List.range 256).all fun n => outN (iL7.getD n 0) 5 == sbox n) = true := by kernel_rfl
  exact eq_of_beq (List.all_eq_true.1 h x.toNat (List.mem_range.2 x.toNat_lt))

theorem twice_calls (x : UInt8) (w : World) : Ret Tryd.prog 54 #[V8 x] w fun v w' => v = V8 (dbl x) ∧ Chg [] w w' := by
 refine Ret.enter Tryd.func54 rfl ?_
 simp only [Tryd.ntmps54, fe, Nat.reduceAdd, Nat.reduceSub]
 have hH := Hp.start [] w
 refine wp_seq_k ?_
 intro K1 hK1
 refine wrt [.p 0] ?_
 refine pa ?_;simp only [nf]
 refine plan_nil hH ?_
 clear hH
 intro w2 hH
 refine hK1 _ _ ?_
 (try clear hK1 K1)
 refine wp_seq_k ?_
 intro K3 hK3
 refine wp_seq_k ?_
 intro K4 hK4
 refine wrt [.p 0, .p 1] ?_
 refine pm ?_;simp only [nf]
 refine pp rfl rfl (pr_bin rfl rfl (bin_geq_u8 _ 128)) ?_;simp only [nf]
 refine plan_nil hH ?_
 clear hH
 intro w5 hH
 refine hK4 _ _ ?_
 (try clear hK4 K4)
 refine wp_cond_split rfl (fun hc6 => ?_) (fun hc6 => ?_)
 ·
  (try simp only [cnd] at hc6)
  refine wp_seq_k ?_
  intro K7 hK7
  refine wrt [.p 0, .p 1, .p 2, .p 3] ?_
  refine pm ?_;simp only [nf]
  refine pp rfl rfl (pr_bin rfl rfl (bin_shlc_u8 1 1 (by decide) rfl _)) ?_;simp only [nf]
  refine pp rfl rfl (pr_bin rfl rfl (bin_xor_u8 _ 27)) ?_;simp only [nf]
  refine pa ?_;simp only [nf]
  refine plan_nil hH ?_
  clear hH
  intro w8 hH
  refine hK7 _ _ ?_
  (try clear hK7 K7)
  refine wp_ret ?_
  (try simp only [Exit.then, Exit.inBlock, ↓reduceIte, Nat.reduceEqDiff])
  refine BP.ret1 rfl rfl ?_
  exact ⟨congrArg V8 (dbl_hi (by assumption)), hH.chg⟩
 ·
  (try simp only [cnd] at hc6)
  refine wp_skip ?_
  refine hK3 _ _ ?_
  (try clear hK3 K3)
  refine wp_seq_k ?_
  intro K9 hK9
  refine wrt [.p 0, .p 1, .p 2] ?_
  refine pm ?_;simp only [nf]
  refine pp rfl rfl (pr_bin rfl rfl (bin_shlc_u8 1 1 (by decide) rfl _)) ?_;simp only [nf]
  refine pa ?_;simp only [nf]
  refine plan_nil hH ?_
  clear hH
  intro w10 hH
  refine hK9 _ _ ?_
  (try clear hK9 K9)
  refine wp_ret ?_
  (try simp only [Exit.then, Exit.inBlock, ↓reduceIte, Nat.reduceEqDiff])
  refine BP.ret1 rfl rfl ?_
  exact ⟨congrArg V8 (dbl_lo (by assumption)), hH.chg⟩

theorem times_calls (x y : UInt8) (w : World) : Ret Tryd.prog 77 #[V8 x, V8 y] w fun v w' => v = V8 (tms x y) ∧ Chg [] w w' := by
 refine Ret.enter Tryd.func77 rfl ?_
 simp only [Tryd.ntmps77, fe, Nat.reduceAdd, Nat.reduceSub]
 have hH := Hp.start [] w
 refine wp_seq_k ?_
 intro K1 hK1
 refine wrt [.p 0] ?_
 refine pa ?_;simp only [nf]
 refine plan_nil hH ?_
 clear hH
 intro w2 hH
 refine hK1 _ _ ?_
 (try clear hK1 K1)
 refine wp_seq_k ?_
 intro K3 hK3
 refine wrt [.p 0] ?_
 refine pa ?_;simp only [nf]
 refine plan_nil hH ?_
 clear hH
 intro w4 hH
 refine hK3 _ _ ?_
 (try clear hK3 K3)
 refine wp_seq_k ?_
 intro K5 hK5
 refine wp_block ?_
 refine wp_loopT [0, 1, 5] [6, 7, 8, 9, 10, 11, 12, 13, 14, 15, 16, 17] (fun (n6 : Nat) (vs : List Value) (w' : World) => ∃ (n : Nat) (x' y' o' : UInt8), vs = [V8 x', V8 y', V8 o'] ∧ Hp [] w w' [] ∧ n6 = n ∧ tmsN n o' x' y' = tms x y ∧ y'.toNat < 2 ^ n) (8) (by kernel_rfl) ?_ ?_
 ·
  simp only [ga]
  refine ⟨8, x, y, 0, rfl, ?_, rfl, ?_, ?_⟩
  ·
   exact hH
  · first | omega | (rfl)
  · first | omega | (exact y.toNat_lt)
 clear hH
 intro n6 vs7 w8 hR9 d0
 obtain ⟨n, x', y', o', rfl, hH, hn10, hE, hY⟩ := hR9
 simp only [putAll, putD, List.set_cons_zero, List.set_cons_succ, Nat.zero_add, Nat.reduceAdd]
 refine wp_seq_k ?_
 intro K11 hK11
 refine wp_seq_k ?_
 intro K12 hK12
 refine wrt [.p 0, .p 1] ?_
 refine pm ?_;simp only [nf]
 refine pp rfl rfl (pr_bin rfl rfl (bin_gtr_u8 _ 0)) ?_;simp only [nf]
 refine plan_nil hH ?_
 clear hH
 intro w13 hH
 refine hK12 _ _ ?_
 (try clear hK12 K12)
 refine wp_cond_split rfl (fun hc14 => ?_) (fun hc14 => ?_)
 ·
  (try simp only [cnd] at hc14)
  obtain ⟨m, rfl⟩ := tms_some hY (by assumption)
  refine wp_skip ?_
  refine hK11 _ _ ?_
  (try clear hK11 K11)
  refine wp_block ?_
  refine wp_seq_k ?_
  intro K15 hK15
  refine wp_seq_k ?_
  intro K16 hK16
  refine wrt [.p 0, .p 1, .p 2] ?_
  refine pm ?_;simp only [nf]
  refine pp rfl rfl (pr_bin rfl rfl (bin_rem_u8 _ 2 (by decide))) ?_;simp only [nf]
  refine pp rfl rfl (pr_bin rfl rfl (bin_eql_u8 _ 1)) ?_;simp only [nf]
  refine plan_nil hH ?_
  clear hH
  intro w17 hH
  refine hK16 _ _ ?_
  (try clear hK16 K16)
  refine wp_cond_split rfl (fun hc18 => ?_) (fun hc18 => ?_)
  ·
   (try simp only [cnd] at hc18)
   refine wrt [.p 0, .p 1, .p 2, .p 3] ?_
   refine pm (pm ?_);simp only [nf]
   refine pp rfl rfl (pr_bin rfl rfl (bin_xor_u8 _ _)) ?_;simp only [nf]
   refine pa ?_;simp only [nf]
   refine plan_nil hH ?_
   clear hH
   intro w19 hH
   refine hK15 _ _ ?_
   (try clear hK15 K15)
   refine wp_seq_k ?_
   intro K20 hK20
   refine wrt [.p 0, .q 1, .p 2] ?_
   refine pm ?_;simp only [nf]
   refine pq rfl rfl (qr_call cf54 (fun w' hw => twice_calls _ w') rfl) ?_;simp only [nf]
   refine pa ?_;simp only [nf]
   refine plan_nil hH ?_
   clear hH
   intro w21 hH
   refine hK20 _ _ ?_
   (try clear hK20 K20)
   refine wrt [.p 0, .p 1, .p 2] ?_
   refine pm ?_;simp only [nf]
   refine pp rfl rfl (pr_bin rfl rfl (bin_quo_u8 _ 2 (by decide))) ?_;simp only [nf]
   refine pa ?_;simp only [nf]
   refine plan_nil hH ?_
   clear hH
   intro w22 hH
   (try simp only [Exit.then, Exit.inBlock, ↓reduceIte, Nat.reduceEqDiff])
   refine ⟨m, ?_, _, rfl, by kernel_rfl, ?_⟩
   · first | omega | (omega)
   simp only [ga]
   refine ⟨m, dbl x', y' / 2, o' ^^^ x', rfl, ?_, rfl, ?_, ?_⟩
   ·
    exact hH
   · first | omega | (first | exact (tms_odd (by assumption) (by assumption)).symm.trans hE | exact (tms_even (by assumption) (by assumption)).symm.trans hE)
   · first | omega | (exact tms_half hY)
  ·
   (try simp only [cnd] at hc18)
   refine wp_skip ?_
   refine hK15 _ _ ?_
   (try clear hK15 K15)
   refine wp_seq_k ?_
   intro K23 hK23
   refine wrt [.p 0, .q 1, .p 2] ?_
   refine pm ?_;simp only [nf]
   refine pq rfl rfl (qr_call cf54 (fun w' hw => twice_calls _ w') rfl) ?_;simp only [nf]
   refine pa ?_;simp only [nf]
   refine plan_nil hH ?_
   clear hH
   intro w24 hH
   refine hK23 _ _ ?_
   (try clear hK23 K23)
   refine wrt [.p 0, .p 1, .p 2] ?_
   refine pm ?_;simp only [nf]
   refine pp rfl rfl (pr_bin rfl rfl (bin_quo_u8 _ 2 (by decide))) ?_;simp only [nf]
   refine pa ?_;simp only [nf]
   refine plan_nil hH ?_
   clear hH
   intro w25 hH
   (try simp only [Exit.then, Exit.inBlock, ↓reduceIte, Nat.reduceEqDiff])
   refine ⟨m, ?_, _, rfl, by kernel_rfl, ?_⟩
   · first | omega | (omega)
   simp only [ga]
   refine ⟨m, dbl x', y' / 2, o', rfl, ?_, rfl, ?_, ?_⟩
   ·
    exact hH
   · first | omega | (first | exact (tms_odd (by assumption) (by assumption)).symm.trans hE | exact (tms_even (by assumption) (by assumption)).symm.trans hE)
   · first | omega | (exact tms_half hY)
 ·
  (try simp only [cnd] at hc14)
  refine wp_exit ?_
  (try simp only [Exit.then, Exit.inBlock, ↓reduceIte, Nat.reduceEqDiff])
  refine hK5 _ _ ?_
  (try clear hK5 K5)
  refine wp_seq_k ?_
  intro K26 hK26
  refine wrt [.p 0, .p 1] ?_
  refine pm (pa ?_);simp only [nf]
  refine plan_nil hH ?_
  clear hH
  intro w27 hH
  refine hK26 _ _ ?_
  (try clear hK26 K26)
  refine wp_ret ?_
  (try simp only [Exit.then, Exit.inBlock, ↓reduceIte, Nat.reduceEqDiff])
  refine BP.ret1 rfl rfl ?_
  exact ⟨congrArg V8 ((tms_end (by assumption)).symm.trans hE), hH.chg⟩

theorem refsub_calls (x : UInt8) (w : World) : Ret Tryd.prog 72 #[V8 x] w fun v w' => v = V8 (sbox x.toNat) ∧ Chg [] w w' := by
 refine Ret.enter Tryd.func72 rfl ?_
 simp only [Tryd.ntmps72, fe, Nat.reduceAdd, Nat.reduceSub]
 have hH := Hp.start [] w
 refine wp_seq_k ?_
 intro K1 hK1
 refine wrt [.p 0] ?_
 refine pa ?_;simp only [nf]
 refine plan_nil hH ?_
 clear hH
 intro w2 hH
 refine hK1 _ _ ?_
 (try clear hK1 K1)
 refine wp_seq_k ?_
 intro K3 hK3
 refine wrt [.p 0, .p 1, .p 2] ?_
 refine pm (pa (pa ?_));simp only [nf]
 refine plan_nil hH ?_
 clear hH
 intro w4 hH
 refine hK3 _ _ ?_
 (try clear hK3 K3)
 refine wp_seq_k ?_
 intro K5 hK5
 refine wp_seq_k ?_
 intro K6 hK6
 refine wrt [.p 0] ?_
 refine pka 0 ?_;simp only [nf]
 refine plan_nil hH ?_
 clear hH
 intro w7 hH
 refine hK6 _ _ ?_
 (try clear hK6 K6)
 refine wp_block ?_
 refine wp_loopT [3, 4, 5] [9, 10, 11, 12, 13, 14, 15, 16, 17, 18] (fun (n8 : Nat) (vs : List Value) (w' : World) => ∃ (k : Nat), vs = [V8 (invN x k), V8 (pN x k), I64 (k : Nat)] ∧ Hp [] w w' [] ∧ n8 = 7 - k ∧ k ≤ 7) (7 - 0) (by kernel_rfl) ?_ ?_
 ·
  simp only [ga]
  refine ⟨0, rfl, ?_, rfl, ?_⟩
  ·
   exact hH
  · first | omega | (omega)
 clear hH
 intro n8 vs9 w10 hR11 d0
 obtain ⟨k, rfl, hH, hn12, hf13⟩ := hR11
 simp only [putAll, putD, List.set_cons_zero, List.set_cons_succ, Nat.zero_add, Nat.reduceAdd]
 refine wp_seq_k ?_
 intro K14 hK14
 refine wp_seq_k ?_
 intro K15 hK15
 refine wrt [.p 0, .p 1] ?_
 refine pm ?_;simp only [nf]
 refine pp rfl rfl (pr_bin rfl rfl (by first | exact bin_lss_n (n := 7)  | exact bin_lss_i)) ?_;simp only [nf]
 refine plan_nil hH ?_
 clear hH
 intro w16 hH
 refine hK15 _ _ ?_
 (try clear hK15 K15)
 refine wp_cond_split rfl (fun hc17 => ?_) (fun hc17 => ?_)
 ·
  (try simp only [cnd] at hc17)
  refine wp_skip ?_
  refine hK14 _ _ ?_
  (try clear hK14 K14)
  refine wp_seq_k ?_
  intro K18 hK18
  refine wp_block ?_
  refine wp_seq_k ?_
  intro K19 hK19
  refine wrt [.p 0, .p 1, .q 2, .p 3] ?_
  refine pm (pm ?_);simp only [nf]
  refine pq rfl rfl (qr_call cf77 (fun w' hw => times_calls _ _ w') rfl) ?_;simp only [nf]
  refine pa ?_;simp only [nf]
  refine plan_nil hH ?_
  clear hH
  intro w20 hH
  refine hK19 _ _ ?_
  (try clear hK19 K19)
  refine wrt [.p 0, .p 1, .q 2, .p 3] ?_
  refine pm (pm ?_);simp only [nf]
  refine pq rfl rfl (qr_call cf77 (fun w' hw => times_calls _ _ w') rfl) ?_;simp only [nf]
  refine pa ?_;simp only [nf]
  refine plan_nil hH ?_
  clear hH
  intro w21 hH
  refine hK18 _ _ ?_
  (try clear hK18 K18)
  refine wrt [.p 0, .p 1, .p 2] ?_
  refine pm ?_;simp only [nf]
  refine pp rfl rfl (pr_bin rfl rfl (by first | exact bin_add_n (n := 1) (by omega) | exact bin_add_i (by omega) (by omega))) ?_;simp only [nf]
  refine pa ?_;simp only [nf]
  refine plan_nil hH ?_
  clear hH
  intro w22 hH
  (try simp only [Exit.then, Exit.inBlock, ↓reduceIte, Nat.reduceEqDiff])
  refine ⟨7 - (k + 1), ?_, _, rfl, by kernel_rfl, ?_⟩
  · first | omega | (omega)
  simp only [ga]
  refine ⟨k + 1, rfl, ?_, rfl, ?_⟩
  ·
   exact hH
  · first | omega | (omega)
 ·
  (try simp only [cnd] at hc17)
  obtain rfl : k = 7 := by omega
  refine wp_exit ?_
  (try simp only [Exit.then, Exit.inBlock, ↓reduceIte, Nat.reduceEqDiff])
  refine hK5 _ _ ?_
  (try clear hK5 K5)
  refine wp_seq_k ?_
  intro K23 hK23
  refine wrt [.p 0] ?_
  refine pa ?_;simp only [nf]
  refine plan_nil hH ?_
  clear hH
  intro w24 hH
  refine hK23 _ _ ?_
  (try clear hK23 K23)
  refine wp_seq_k ?_
  intro K25 hK25
  refine wp_seq_k ?_
  intro K26 hK26
  refine wrt [.p 0] ?_
  refine pka 0 ?_;simp only [nf]
  refine plan_nil hH ?_
  clear hH
  intro w27 hH
  refine hK26 _ _ ?_
  (try clear hK26 K26)
  refine wp_block ?_
  refine wp_loopT [6, 7] [19, 20, 21, 22, 23, 24, 25, 26, 27, 28, 29, 30, 31, 32] (fun (n28 : Nat) (vs : List Value) (w' : World) => ∃ (j : Nat), vs = [V8 (outN (invN x 7) j), I64 (j : Nat)] ∧ Hp [] w w' [] ∧ n28 = 5 - j ∧ j ≤ 5) (5 - 0) (by kernel_rfl) ?_ ?_
  ·
   simp only [ga]
   refine ⟨0, rfl, ?_, rfl, ?_⟩
   ·
    exact hH
   · first | omega | (omega)
  clear hH
  intro n28 vs29 w30 hR31 d1
  obtain ⟨j, rfl, hH, hn32, hf33⟩ := hR31
  simp only [putAll, putD, List.set_cons_zero, List.set_cons_succ, Nat.zero_add, Nat.reduceAdd]
  refine wp_seq_k ?_
  intro K34 hK34
  refine wp_seq_k ?_
  intro K35 hK35
  refine wrt [.p 0, .p 1] ?_
  refine pm ?_;simp only [nf]
  refine pp rfl rfl (pr_bin rfl rfl (by first | exact bin_lss_n (n := 5)  | exact bin_lss_i)) ?_;simp only [nf]
  refine plan_nil hH ?_
  clear hH
  intro w36 hH
  refine hK35 _ _ ?_
  (try clear hK35 K35)
  refine wp_cond_split rfl (fun hc37 => ?_) (fun hc37 => ?_)
  ·
   (try simp only [cnd] at hc37)
   refine wp_skip ?_
   refine hK34 _ _ ?_
   (try clear hK34 K34)
   refine wp_seq_k ?_
   intro K38 hK38
   refine wp_block ?_
   refine wrp [.p 0, .p 1, .p 2, .p 3, .p 4, .p 5, .p 6, .p 7, .p 8, .p 9, .p 10] ?_
   refine pm (pm (pm ?_));simp only [nf]
   refine pp rfl rfl (pr_bin rfl rfl (bin_shl_u8 _ _ _)) ?_;simp only [nf]
   refine pm (pm ?_);simp only [nf]
   refine pp rfl rfl (pr_bin rfl rfl (by first | exact bin_sub_n (m := 8) (by omega) (by omega) | exact bin_sub_i (by omega) (by omega))) ?_;simp only [nf]
   refine pp rfl rfl (pr_bin rfl rfl (bin_shr_u8 _ _ _)) ?_;simp only [nf]
   refine pp rfl rfl (pr_bin rfl rfl (bin_or_u8 _ _)) ?_;simp only [nf]
   refine pp rfl rfl (pr_bin rfl rfl (bin_xor_u8 _ _)) ?_;simp only [nf]
   refine pa ?_;simp only [nf]
   refine plan_nil hH ?_
   clear hH
   intro w39 hH
   refine hK38 _ _ ?_
   (try clear hK38 K38)
   refine wrt [.p 0, .p 1, .p 2] ?_
   refine pm ?_;simp only [nf]
   refine pp rfl rfl (pr_bin rfl rfl (by first | exact bin_add_n (n := 1) (by omega) | exact bin_add_i (by omega) (by omega))) ?_;simp only [nf]
   refine pa ?_;simp only [nf]
   refine plan_nil hH ?_
   clear hH
   intro w40 hH
   (try simp only [Exit.then, Exit.inBlock, ↓reduceIte, Nat.reduceEqDiff])
   refine ⟨5 - (j + 1), ?_, _, rfl, by kernel_rfl, ?_⟩
   · first | omega | (omega)
   simp only [ga]
   refine ⟨j + 1, rfl, ?_, rfl, ?_⟩
   ·
    exact hH
   · first | omega | (omega)
  ·
   (try simp only [cnd] at hc37)
   refine wp_exit ?_
   (try simp only [Exit.then, Exit.inBlock, ↓reduceIte, Nat.reduceEqDiff])
   refine hK25 _ _ ?_
   (try clear hK25 K25)
   refine wp_seq_k ?_
   intro K41 hK41
   refine wrt [.p 0, .p 1] ?_
   refine pm (pa ?_);simp only [nf]
   refine plan_nil hH ?_
   clear hH
   intro w42 hH
   refine hK41 _ _ ?_
   (try clear hK41 K41)
   refine wp_ret ?_
   (try simp only [Exit.then, Exit.inBlock, ↓reduceIte, Nat.reduceEqDiff])
   refine BP.ret1 rfl rfl ?_
   obtain rfl : j = 5 := by omega
   exact ⟨congrArg V8 (sub_is x), hH.chg⟩

theorem table_calls (w : World) : Ret Tryd.prog 53 #[] w fun v w' => v = .agg (arr8 256 sbox) ∧ Chg [] w w' := by
 refine Ret.enter Tryd.func53 rfl ?_
 simp only [Tryd.ntmps53, fe, Nat.reduceAdd, Nat.reduceSub]
 have hH := Hp.start [] w
 refine wp_seq_k ?_
 intro K1 hK1
 refine wrt [.x 0] ?_
 refine plan_alloc rfl rfl hH zc99 ?_
 clear hH
 intro b2 w3 hH
 (try simp only [nf, nh, Value.cells] at hH ⊢)
 refine plan_nil hH ?_
 clear hH
 intro w4 hH
 refine hK1 _ _ ?_
 (try clear hK1 K1)
 refine wp_seq_k ?_
 intro K5 hK5
 refine wrt [.x 0] ?_
 refine plan_alloc rfl rfl hH zc99 ?_
 clear hH
 intro b6 w7 hH
 (try simp only [nf, nh, Value.cells] at hH ⊢)
 refine plan_nil hH ?_
 clear hH
 intro w8 hH
 refine hK5 _ _ ?_
 (try clear hK5 K5)
 refine wp_seq_k ?_
 intro K9 hK9
 refine wp_seq_k ?_
 intro K10 hK10
 refine wrt [.p 0] ?_
 refine pka 0 ?_;simp only [nf]
 refine plan_nil hH ?_
 clear hH
 intro w11 hH
 refine hK10 _ _ ?_
 (try clear hK10 K10)
 refine wp_block ?_
 refine wp_loopT [2] [3, 4, 5, 6, 7, 8, 9, 10, 11] (fun (n12 : Nat) (vs : List Value) (w' : World) => ∃ (k : Nat), vs = [I64 (k : Nat)] ∧ Hp [] w w' [(some b2, 99, arr8 256 fun _ => 0), (some b6, 99, arr8 256 fun i => if i < k then sbox i else 0)] ∧ n12 = 256 - k ∧ k ≤ 256) (256 - 0) (by kernel_rfl) ?_ ?_
 ·
  simp only [ga]
  refine ⟨0, rfl, ?_, rfl, ?_⟩
  ·
   exact hH.say 1 rfl (arr8_congr fun i hi => by rw [if_neg (by omega)])
  · first | omega | (omega)
 clear hH
 intro n12 vs13 w14 hR15 d0
 obtain ⟨k, rfl, hH, hn16, hf17⟩ := hR15
 simp only [putAll, putD, List.set_cons_zero, List.set_cons_succ, Nat.zero_add, Nat.reduceAdd]
 refine wp_seq_k ?_
 intro K18 hK18
 refine wp_seq_k ?_
 intro K19 hK19
 refine wrt [.p 0, .p 1] ?_
 refine pm ?_;simp only [nf]
 refine pp rfl rfl (pr_bin rfl rfl (by first | exact bin_lss_n (n := 256)  | exact bin_lss_i)) ?_;simp only [nf]
 refine plan_nil hH ?_
 clear hH
 intro w20 hH
 refine hK19 _ _ ?_
 (try clear hK19 K19)
 refine wp_cond_split rfl (fun hc21 => ?_) (fun hc21 => ?_)
 ·
  (try simp only [cnd] at hc21)
  refine wp_skip ?_
  refine hK18 _ _ ?_
  (try clear hK18 K18)
  refine wp_seq_k ?_
  intro K22 hK22
  refine wp_block ?_
  refine wrt [.p 0, .p 1, .p 2, .q 3, .p 4, .e 5] ?_
  refine pm (pm ?_);simp only [nf]
  refine pp rfl rfl (pr_conv rfl (by first | exact cnv_n_u8 Tryd.underlying3 Tryd.underlying5 | exact cnv_i_u8 Tryd.underlying3 Tryd.underlying5)) ?_;simp only [nf]
  refine pq rfl rfl (qr_call cf72 (fun w' hw => refsub_calls _ w') rfl) ?_;simp only [nf]
  refine pp rfl rfl (pr_idxA1 rfl rfl Tryd.underlying99 sz5 (by omega)) ?_;simp only [nf]
  refine plan_store1 1 rfl rfl hH rfl rfl rfl rfl sz5 (by simp <;> omega) ?_
  clear hH
  intro w23 hH
  (try simp only [nf, nh, Value.cells] at hH ⊢)
  refine plan_nil hH ?_
  clear hH
  intro w24 hH
  refine hK22 _ _ ?_
  (try clear hK22 K22)
  refine wrt [.p 0, .p 1, .p 2] ?_
  refine pm ?_;simp only [nf]
  refine pp rfl rfl (pr_bin rfl rfl (by first | exact bin_add_n (n := 1) (by omega) | exact bin_add_i (by omega) (by omega))) ?_;simp only [nf]
  refine pa ?_;simp only [nf]
  refine plan_nil hH ?_
  clear hH
  intro w25 hH
  (try simp only [Exit.then, Exit.inBlock, ↓reduceIte, Nat.reduceEqDiff])
  refine ⟨256 - (k + 1), ?_, _, rfl, by kernel_rfl, ?_⟩
  · first | omega | (omega)
  simp only [ga]
  refine ⟨k + 1, rfl, ?_, rfl, ?_⟩
  ·
   rw [ofNat_toNat8 k (by omega)] at hH
   exact hH.say 1 rfl (arr8_congr fun i hi => upd_lt (g := sbox) (z := fun _ => 0) rfl i)
  · first | omega | (omega)
 ·
  (try simp only [cnd] at hc21)
  refine wp_exit ?_
  (try simp only [Exit.then, Exit.inBlock, ↓reduceIte, Nat.reduceEqDiff])
  refine hK9 _ _ ?_
  (try clear hK9 K9)
  refine wp_seq_k ?_
  intro K26 hK26
  refine wrt [.q 0, .e 1] ?_
  refine pq rfl rfl (qr_loadW rfl (hH.blk 1 rfl) Tryd.underlying99 rfl sz99 (by simp)) ?_;simp only [nf]
  refine plan_storeW 0 rfl rfl hH rfl rfl rfl one_arr8 sz99 (by simp) (by simp) ?_
  clear hH
  intro w27 hH
  (try simp only [nf, nh, Value.cells] at hH ⊢)
  refine plan_nil hH ?_
  clear hH
  intro w28 hH
  refine hK26 _ _ ?_
  (try clear hK26 K26)
  refine wp_ret ?_
  (try simp only [Exit.then, Exit.inBlock, ↓reduceIte, Nat.reduceEqDiff])
  refine BP.retc rfl rfl (hH.blk 0 rfl) Tryd.underlying99 rfl sz99 (by simp) ?_
  exact ⟨by rw [arr8_congr fun i hi => if_pos (by omega)], hH.chg⟩

end Go.Proofs.YtmoaddicejohgaaDoor
