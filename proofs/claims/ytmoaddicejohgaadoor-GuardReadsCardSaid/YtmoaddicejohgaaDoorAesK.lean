/- Streams as rows of bytes; rows cut; noughts. No conditions. -/
import Derived.Test.YtmoaddicejohgaaDoorAes7
import Derived.Test.YtmoaddicejohgaaDoorMore
set_option linter.unusedSimpArgs false
set_option linter.unusedVariables false
set_option maxRecDepth 100000
set_option maxHeartbeats 4000000
namespace Go.Proofs.YtmoaddicejohgaaDoor
open Go
open List (getD_cons_zero getD_cons_succ set_cons_zero set_cons_succ)

theorem strm_len (K c : Nat → UInt8) (a : Nat) (l : List UInt8) (n : Nat) : (strm K c a l n).length = n := by simp [strm]
theorem strm_at (K c : Nat → UInt8) (a : Nat) (l : List UInt8) {n i : Nat} (h : i < n) : (strm K c a l n).getD i 0 = l.getD i 0 ^^^ ksF K c (a + i) := by
  simp [strm, List.getD, h]
theorem strm_twice (K c : Nat → UInt8) (a : Nat) (l : List UInt8) : strm K c a (strm K c a l l.length) l.length = l := by
  apply List.ext_getElem (by simp [strm])
  intro i h1 h2
  have := strm_at K c a l h2
  simp only [strm, List.getElem_map, List.getElem_range] at this ⊢
  rw [this, UInt8.xor_assoc, UInt8.xor_self, UInt8.xor_zero]
  simp [List.getD, h2]
theorem strm_parts (K c : Nat → UInt8) (a k : Nat) (l : List UInt8) (h : k ≤ l.length) : strm K c a (l.take k) (l.take k).length ++ strm K c (a + k) (l.drop k) (l.drop k).length = strm K c a l l.length := by
  apply List.ext_getElem (by simp [strm]; omega)
  intro i h1 h2
  have hi : i < l.length := by simpa [strm] using h2
  rw [List.getElem_append]
  simp only [strm, List.length_map, List.length_range, List.length_take, List.getElem_map, List.getElem_range]
  split
  · rename_i h3
    simp [List.getD, show i < k by omega]
  · rename_i h3
    rw [show a + k + (i - min k l.length) = a + i by omega]
    simp [List.getD, List.getElem?_drop, show k + (i - min k l.length) = i by omega]

theorem zeros_getD (n j : Nat) : ((List.range n).map fun _ => (0 : UInt8)).getD j 0 = 0 := by
  simp only [List.getD, List.getElem?_map]
  cases (List.range n)[j]? <;> rfl
theorem take_getD (l : List UInt8) {n i : Nat} (h : i < n) : (l.take n).getD i 0 = l.getD i 0 := by
  simp only [List.getD, List.getElem?_take, h, if_true]
theorem u64_mod_k (x m : UInt64) (k : Nat) (hm : m.toNat = k) (h : 0 < k) : (x % m).toNat < k := by
  rw [UInt64.toNat_mod, hm]; exact Nat.mod_lt _ h

end Go.Proofs.YtmoaddicejohgaaDoor
