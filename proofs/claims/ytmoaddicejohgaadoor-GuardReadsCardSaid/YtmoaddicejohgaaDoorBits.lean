/- Whole numbers, bit by bit. -/
import Derived.Test.YtmoaddicejohgaaDoorConv
set_option linter.unusedSimpArgs false
set_option linter.unusedVariables false
namespace Go.Proofs.YtmoaddicejohgaaDoor
open Go
section
variable {P : Program} {t : TypeId} {x y : Operand}
theorem bin_or_n {m n : Nat} (hm : m < 9223372036854775808) (hn : n < 9223372036854775808) : Bin P .or t x y (I64 m) (I64 n) (I64 (m ||| n : Nat)) := bin_of_int fun w => by
  simp only [binOp, Op.intBits, ofInt_nat]
  have h : (IntKind.i64.wrap (((BitVec.ofNat 64 m) ||| (BitVec.ofNat 64 n)).toNat : Int)) = ((m ||| n : Nat) : Int) := by
    have hb : m ||| n < 9223372036854775808 := Nat.or_lt_two_pow (n := 63) hm hn
    rw [BitVec.toNat_or, BitVec.toNat_ofNat, BitVec.toNat_ofNat, Nat.mod_eq_of_lt (by omega), Nat.mod_eq_of_lt (by omega)]
    exact wrap_i64_in _ (by omega) (by omega)
  show Result.ok (Value.int .i64 (IntKind.i64.wrap (((BitVec.ofNat 64 m) ||| (BitVec.ofNat 64 n)).toNat : Int))) w = _
  rw [h]
theorem bin_and_n {m n : Nat} (hm : m < 9223372036854775808) (hn : n < 9223372036854775808) : Bin P .and t x y (I64 m) (I64 n) (I64 (m &&& n : Nat)) := bin_of_int fun w => by
  simp only [binOp, Op.intBits, ofInt_nat]
  have h : (IntKind.i64.wrap (((BitVec.ofNat 64 m) &&& (BitVec.ofNat 64 n)).toNat : Int)) = ((m &&& n : Nat) : Int) := by
    have hb : m &&& n < 9223372036854775808 := Nat.and_lt_two_pow (n := 63) _ hn
    rw [BitVec.toNat_and, BitVec.toNat_ofNat, BitVec.toNat_ofNat, Nat.mod_eq_of_lt (by omega), Nat.mod_eq_of_lt (by omega)]
    exact wrap_i64_in _ (by omega) (by omega)
  show Result.ok (Value.int .i64 (IntKind.i64.wrap (((BitVec.ofNat 64 m) &&& (BitVec.ofNat 64 n)).toNat : Int))) w = _
  rw [h]
theorem bin_andNot_n {m n : Nat} (hm : m < 9223372036854775808) (hn : n < 9223372036854775808) : Bin P .andNot t x y (I64 m) (I64 n) (I64 (m &&& (18446744073709551615 - n) : Nat)) := bin_of_int fun w => by
  simp only [binOp, Op.intBits, ofInt_nat]
  have h : (IntKind.i64.wrap (((BitVec.ofNat 64 m) &&& ~~~(BitVec.ofNat 64 n)).toNat : Int)) = ((m &&& (18446744073709551615 - n) : Nat) : Int) := by
    have hb : m &&& (18446744073709551615 - n) ≤ m := Nat.and_le_left
    rw [BitVec.toNat_and, BitVec.toNat_not, BitVec.toNat_ofNat, BitVec.toNat_ofNat, Nat.mod_eq_of_lt (by omega), Nat.mod_eq_of_lt (by omega), show 2 ^ 64 - 1 - n = 18446744073709551615 - n from rfl]
    exact wrap_i64_in _ (by omega) (by omega)
  show Result.ok (Value.int .i64 (IntKind.i64.wrap (((BitVec.ofNat 64 m) &&& ~~~(BitVec.ofNat 64 n)).toNat : Int))) w = _
  rw [h]
end
end Go.Proofs.YtmoaddicejohgaaDoor
