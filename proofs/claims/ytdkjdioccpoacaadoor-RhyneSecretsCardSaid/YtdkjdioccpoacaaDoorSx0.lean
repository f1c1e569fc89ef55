/- Packed: Vals, Mem, Plan, Run, Int, Step, Sl, Arr, Facts, More, Fe, Builds, Fx, Fork, OwnD, Conv, Guard, Join, ForkN, as far as rhyneSecretsCard_holds needs them. No conditions but those that stand in the statements. -/
import Derived.WalkKit
import Derived.OrdersHeld
import Derived.Deep.Quiet
import Derived.Tactics2
import Derived.KernelRfl
import Derived.LaidEql
import Derived.Laws.BytesArg
import Derived.ChangeKeysEq
import Derived.Test.YtdkjdioccpoacaaDoorProg
import Derived.Laws.Externs
import Derived.Lib.ConvBytes
set_option linter.unusedSimpArgs false
set_option linter.unusedVariables false
namespace Go.Proofs.YtdkjdioccpoacaaDoor
open Go
abbrev BV (b : Bool) : Value := .bool b
abbrev I64 (n : Int) : Value := .int .i64 n
abbrev PT (b o : Nat) : Value := .pointer (some ⟨b, o, none⟩)
def Bin (P : Program) (op : BinOp) (t : TypeId) (x y : Operand) (vx vy v : Value) : Prop := ∀ w, (do eqGuard op t x y vx vy; binOp op t vx vy : Sem Value).run P w = .ok v w
def Cnv (P : Program) (s d : TypeId) (vx v : Value) : Prop := ∀ w, (convert s d vx).run P w = .ok v w
theorem run_eqGuard_int (P : Program) (op : BinOp) (t : TypeId) (x y : Operand) (k : IntKind) (m : Int) (v : Value) (w : World) : (eqGuard op t x y (.int k m) v).run P w = .ok () w := by
  unfold eqGuard; cases op <;> rfl
theorem run_eqGuard_bool (P : Program) (op : BinOp) (t : TypeId) (x y : Operand) (b : Bool) (v : Value) (w : World) : (eqGuard op t x y (.bool b) v).run P w = .ok () w := by
  unfold eqGuard; cases op <;> rfl
theorem run_eqGuard_string (P : Program) (op : BinOp) (t : TypeId) (x y : Operand) (b : ByteArray) (v : Value) (w : World) : (eqGuard op t x y (.string b) v).run P w = .ok () w := by
  unfold eqGuard; cases op <;> rfl
theorem run_eqGuard_pointer (P : Program) (op : BinOp) (t : TypeId) (x y : Operand) (b : Option Addr) (v : Value) (w : World) : (eqGuard op t x y (.pointer b) v).run P w = .ok () w := by
  unfold eqGuard; cases op <;> rfl
theorem bin_of_int {P : Program} {op : BinOp} {t : TypeId} {x y : Operand} {k : IntKind} {m : Int} {vy v : Value} (h : ∀ w, (binOp op t (.int k m) vy).run P w = .ok v w) : Bin P op t x y (.int k m) vy v := fun w => by
  rw [Sem.run_bind, run_eqGuard_int]; exact h w
theorem bin_of_bool {P : Program} {op : BinOp} {t : TypeId} {x y : Operand} {b : Bool} {vy v : Value} (h : ∀ w, (binOp op t (.bool b) vy).run P w = .ok v w) : Bin P op t x y (.bool b) vy v := fun w => by
  rw [Sem.run_bind, run_eqGuard_bool]; exact h w
theorem bin_of_string {P : Program} {op : BinOp} {t : TypeId} {x y : Operand} {b : ByteArray} {vy v : Value} (h : ∀ w, (binOp op t (.string b) vy).run P w = .ok v w) : Bin P op t x y (.string b) vy v := fun w => by
  rw [Sem.run_bind, run_eqGuard_string]; exact h w
theorem bin_of_pointer {P : Program} {op : BinOp} {t : TypeId} {x y : Operand} {b : Option Addr} {vy v : Value} (h : ∀ w, (binOp op t (.pointer b) vy).run P w = .ok v w) : Bin P op t x y (.pointer b) vy v := fun w => by
  rw [Sem.run_bind, run_eqGuard_pointer]; exact h w
section
variable {P : Program} {t ty : TypeId} {x y : Operand}
theorem ofInt_nat (w n : Nat) : BitVec.ofInt w (n : Int) = BitVec.ofNat w n := by
  apply BitVec.eq_of_toNat_eq; simp
abbrev V8 (x : UInt8) : Value := .int .u8 ((x.toNat : Nat) : Int)
theorem wrap_u8 (n : Nat) : IntKind.u8.wrap (n : Int) = ((n % 256 : Nat) : Int) := by simp [IntKind.wrap, IntKind.bits, IntKind.signed]
theorem lt_u8 (x : UInt8) : x.toNat < 256 := x.toNat_lt
theorem bin_xor_u8 (a b : UInt8) : Bin P .xor t x y (V8 a) (V8 b) (V8 (a ^^^ b)) := bin_of_int fun w => by
  simp only [binOp, Op.intBits, ofInt_nat]
  have h : (IntKind.u8.wrap (((BitVec.ofNat 8 a.toNat) ^^^ (BitVec.ofNat 8 b.toNat)).toNat : Int)) = (((a ^^^ b).toNat : Nat) : Int) := by
    rw [wrap_u8]; congr 1
    have ha := lt_u8 a; have hb := lt_u8 b
    rw [BitVec.toNat_xor, BitVec.toNat_ofNat, BitVec.toNat_ofNat, Nat.mod_eq_of_lt ha, Nat.mod_eq_of_lt hb, UInt8.toNat_xor]
    exact Nat.mod_eq_of_lt (Nat.xor_lt_two_pow (n := 8) ha hb)
  show Result.ok (Value.int .u8 (IntKind.u8.wrap (((BitVec.ofNat 8 a.toNat) ^^^ (BitVec.ofNat 8 b.toNat)).toNat : Int))) w = _
  rw [h]
theorem bin_and_u8 (a b : UInt8) : Bin P .and t x y (V8 a) (V8 b) (V8 (a &&& b)) := bin_of_int fun w => by
  simp only [binOp, Op.intBits, ofInt_nat]
  have h : (IntKind.u8.wrap (((BitVec.ofNat 8 a.toNat) &&& (BitVec.ofNat 8 b.toNat)).toNat : Int)) = (((a &&& b).toNat : Nat) : Int) := by
    rw [wrap_u8]; congr 1
    have ha := lt_u8 a; have hb := lt_u8 b
    rw [BitVec.toNat_and, BitVec.toNat_ofNat, BitVec.toNat_ofNat, Nat.mod_eq_of_lt ha, Nat.mod_eq_of_lt hb, UInt8.toNat_and]
    exact Nat.mod_eq_of_lt (Nat.and_lt_two_pow (n := 8) _ hb)
  show Result.ok (Value.int .u8 (IntKind.u8.wrap (((BitVec.ofNat 8 a.toNat) &&& (BitVec.ofNat 8 b.toNat)).toNat : Int))) w = _
  rw [h]
theorem bin_or_u8 (a b : UInt8) : Bin P .or t x y (V8 a) (V8 b) (V8 (a ||| b)) := bin_of_int fun w => by
  simp only [binOp, Op.intBits, ofInt_nat]
  have h : (IntKind.u8.wrap (((BitVec.ofNat 8 a.toNat) ||| (BitVec.ofNat 8 b.toNat)).toNat : Int)) = (((a ||| b).toNat : Nat) : Int) := by
    rw [wrap_u8]; congr 1
    have ha := lt_u8 a; have hb := lt_u8 b
    rw [BitVec.toNat_or, BitVec.toNat_ofNat, BitVec.toNat_ofNat, Nat.mod_eq_of_lt ha, Nat.mod_eq_of_lt hb, UInt8.toNat_or]
    exact Nat.mod_eq_of_lt (Nat.or_lt_two_pow (n := 8) ha hb)
  show Result.ok (Value.int .u8 (IntKind.u8.wrap (((BitVec.ofNat 8 a.toNat) ||| (BitVec.ofNat 8 b.toNat)).toNat : Int))) w = _
  rw [h]
theorem bin_add_u8 (a b : UInt8) : Bin P .add t x y (V8 a) (V8 b) (V8 (a + b)) := bin_of_int fun w => by
  show Result.ok (Value.int .u8 (IntKind.u8.wrap ((a.toNat : Int) + (b.toNat : Int)))) w = _
  rw [show ((a.toNat : Int) + (b.toNat : Int)) = ((a.toNat + b.toNat : Nat) : Int) by simp, wrap_u8]
  show Result.ok (Value.int .u8 ((((a.toNat + b.toNat) % 256 : Nat)) : Int)) w = Result.ok (Value.int .u8 (((a + b).toNat : Nat) : Int)) w
  rw [UInt8.toNat_add]
theorem bin_mul_u8 (a b : UInt8) : Bin P .mul t x y (V8 a) (V8 b) (V8 (a * b)) := bin_of_int fun w => by
  show Result.ok (Value.int .u8 (IntKind.u8.wrap ((a.toNat : Int) * (b.toNat : Int)))) w = _
  rw [show ((a.toNat : Int) * (b.toNat : Int)) = ((a.toNat * b.toNat : Nat) : Int) by simp, wrap_u8]
  show Result.ok (Value.int .u8 ((((a.toNat * b.toNat) % 256 : Nat)) : Int)) w = Result.ok (Value.int .u8 (((a * b).toNat : Nat) : Int)) w
  rw [UInt8.toNat_mul]
theorem bin_shl_u8 (a : UInt8) (k : IntKind) (c : Nat) : Bin P .shl t x y (V8 a) (.int k (c : Int)) (V8 (if c < 8 then a <<< UInt8.ofNat c else 0)) := bin_of_int fun w => by
  have h0 : ¬ ((c : Int) < 0) := by omega
  show ((Op.shift .shl .u8 (a.toNat : Int) k (c : Int))).run P w = _
  have h : IntKind.u8.wrap ((a.toNat : Int) * 2 ^ (min c 8)) = (((if c < 8 then a <<< UInt8.ofNat c else 0).toNat : Nat) : Int) := by
    have e : (a.toNat : Int) * 2 ^ (min c 8) = ((a.toNat * 2 ^ (min c 8) : Nat) : Int) := by simp
    rw [e, wrap_u8]
    congr 1
    split
    · rename_i hc
      rw [Nat.min_eq_left (by omega), UInt8.toNat_shiftLeft, UInt8.toNat_ofNat', Nat.shiftLeft_eq]
      have hm : c % 256 % 8 = c := by rw [Nat.mod_eq_of_lt (a := c) (b := 256) (by omega)]; exact Nat.mod_eq_of_lt hc
      simp only [Nat.reducePow, hm]
    · rename_i hc
      rw [Nat.min_eq_right (by omega)]
      simp
  simp only [Op.shift, h0, if_false, Int.toNat_natCast, IntKind.bits, h]
  rfl
theorem bin_shr_u8 (a : UInt8) (k : IntKind) (c : Nat) : Bin P .shr t x y (V8 a) (.int k (c : Int)) (V8 (if c < 8 then a >>> UInt8.ofNat c else 0)) := bin_of_int fun w => by
  have h0 : ¬ ((c : Int) < 0) := by omega
  show ((Op.shift .shr .u8 (a.toNat : Int) k (c : Int))).run P w = _
  have h : Int.fdiv (a.toNat : Int) (2 ^ (min c 8)) = (((if c < 8 then a >>> UInt8.ofNat c else 0).toNat : Nat) : Int) := by
    have e : Int.fdiv (a.toNat : Int) (2 ^ (min c 8)) = ((a.toNat / 2 ^ (min c 8) : Nat) : Int) := by
      rw [show ((2 : Int) ^ (min c 8)) = ((2 ^ (min c 8) : Nat) : Int) by simp]
      rw [Int.natCast_ediv, Int.fdiv_eq_ediv_of_nonneg _ (Int.natCast_nonneg _)]
    rw [e]
    congr 1
    split
    · rename_i hc
      rw [Nat.min_eq_left (by omega), UInt8.toNat_shiftRight, UInt8.toNat_ofNat', Nat.shiftRight_eq_div_pow]
      have hm : c % 256 % 8 = c := by rw [Nat.mod_eq_of_lt (a := c) (b := 256) (by omega)]; exact Nat.mod_eq_of_lt hc
      simp only [Nat.reducePow, hm]
    · rename_i hc
      rw [Nat.min_eq_right (by omega)]
      have := lt_u8 a
      simp only [Nat.reducePow] at this ⊢
      rw [Nat.div_eq_of_lt this]; rfl
  simp only [Op.shift, h0, if_false, Int.toNat_natCast, IntKind.bits, h]
  rfl
theorem bin_shlc_u8 (c : Nat) (s : UInt8) (hc : c < 8) (hs : UInt8.ofNat c = s) (a : UInt8) {k : IntKind} : Bin P .shl t x y (V8 a) (.int k (c : Int)) (V8 (a <<< s)) := by
  have h := bin_shl_u8 (P := P) (t := t) (x := x) (y := y) a k c
  rw [if_pos hc, hs] at h
  exact h
theorem bin_shrc_u8 (c : Nat) (s : UInt8) (hc : c < 8) (hs : UInt8.ofNat c = s) (a : UInt8) {k : IntKind} : Bin P .shr t x y (V8 a) (.int k (c : Int)) (V8 (a >>> s)) := by
  have h := bin_shr_u8 (P := P) (t := t) (x := x) (y := y) a k c
  rw [if_pos hc, hs] at h
  exact h
theorem bin_eql_u8 (a b : UInt8) : Bin P .eql t x y (V8 a) (V8 b) (BV (a == b)) := bin_of_int fun w => by
  show Result.ok (Value.bool ((a.toNat : Int) == (b.toNat : Int))) w = _
  have h : ((a.toNat : Int) == (b.toNat : Int)) = (a == b) := by rw [Bool.eq_iff_iff]; simp [← UInt8.toNat_inj]; omega
  rw [h]
theorem bin_neq_u8 (a b : UInt8) : Bin P .neq t x y (V8 a) (V8 b) (BV (a != b)) := bin_of_int fun w => by
  show Result.ok (Value.bool ((a.toNat : Int) != (b.toNat : Int))) w = _
  have h : ((a.toNat : Int) != (b.toNat : Int)) = (a != b) := by rw [Bool.eq_iff_iff]; simp [← UInt8.toNat_inj]; omega
  rw [h]
abbrev V32 (x : UInt32) : Value := .int .u32 ((x.toNat : Nat) : Int)
theorem wrap_u32 (n : Nat) : IntKind.u32.wrap (n : Int) = ((n % 4294967296 : Nat) : Int) := by simp [IntKind.wrap, IntKind.bits, IntKind.signed]
theorem lt_u32 (x : UInt32) : x.toNat < 4294967296 := x.toNat_lt
theorem bin_xor_u32 (a b : UInt32) : Bin P .xor t x y (V32 a) (V32 b) (V32 (a ^^^ b)) := bin_of_int fun w => by
  simp only [binOp, Op.intBits, ofInt_nat]
  have h : (IntKind.u32.wrap (((BitVec.ofNat 32 a.toNat) ^^^ (BitVec.ofNat 32 b.toNat)).toNat : Int)) = (((a ^^^ b).toNat : Nat) : Int) := by
    rw [wrap_u32]; congr 1
    have ha := lt_u32 a; have hb := lt_u32 b
    rw [BitVec.toNat_xor, BitVec.toNat_ofNat, BitVec.toNat_ofNat, Nat.mod_eq_of_lt ha, Nat.mod_eq_of_lt hb, UInt32.toNat_xor]
    exact Nat.mod_eq_of_lt (Nat.xor_lt_two_pow (n := 32) ha hb)
  show Result.ok (Value.int .u32 (IntKind.u32.wrap (((BitVec.ofNat 32 a.toNat) ^^^ (BitVec.ofNat 32 b.toNat)).toNat : Int))) w = _
  rw [h]
theorem bin_and_u32 (a b : UInt32) : Bin P .and t x y (V32 a) (V32 b) (V32 (a &&& b)) := bin_of_int fun w => by
  simp only [binOp, Op.intBits, ofInt_nat]
  have h : (IntKind.u32.wrap (((BitVec.ofNat 32 a.toNat) &&& (BitVec.ofNat 32 b.toNat)).toNat : Int)) = (((a &&& b).toNat : Nat) : Int) := by
    rw [wrap_u32]; congr 1
    have ha := lt_u32 a; have hb := lt_u32 b
    rw [BitVec.toNat_and, BitVec.toNat_ofNat, BitVec.toNat_ofNat, Nat.mod_eq_of_lt ha, Nat.mod_eq_of_lt hb, UInt32.toNat_and]
    exact Nat.mod_eq_of_lt (Nat.and_lt_two_pow (n := 32) _ hb)
  show Result.ok (Value.int .u32 (IntKind.u32.wrap (((BitVec.ofNat 32 a.toNat) &&& (BitVec.ofNat 32 b.toNat)).toNat : Int))) w = _
  rw [h]
theorem bin_or_u32 (a b : UInt32) : Bin P .or t x y (V32 a) (V32 b) (V32 (a ||| b)) := bin_of_int fun w => by
  simp only [binOp, Op.intBits, ofInt_nat]
  have h : (IntKind.u32.wrap (((BitVec.ofNat 32 a.toNat) ||| (BitVec.ofNat 32 b.toNat)).toNat : Int)) = (((a ||| b).toNat : Nat) : Int) := by
    rw [wrap_u32]; congr 1
    have ha := lt_u32 a; have hb := lt_u32 b
    rw [BitVec.toNat_or, BitVec.toNat_ofNat, BitVec.toNat_ofNat, Nat.mod_eq_of_lt ha, Nat.mod_eq_of_lt hb, UInt32.toNat_or]
    exact Nat.mod_eq_of_lt (Nat.or_lt_two_pow (n := 32) ha hb)
  show Result.ok (Value.int .u32 (IntKind.u32.wrap (((BitVec.ofNat 32 a.toNat) ||| (BitVec.ofNat 32 b.toNat)).toNat : Int))) w = _
  rw [h]
theorem bin_add_u32 (a b : UInt32) : Bin P .add t x y (V32 a) (V32 b) (V32 (a + b)) := bin_of_int fun w => by
  show Result.ok (Value.int .u32 (IntKind.u32.wrap ((a.toNat : Int) + (b.toNat : Int)))) w = _
  rw [show ((a.toNat : Int) + (b.toNat : Int)) = ((a.toNat + b.toNat : Nat) : Int) by simp, wrap_u32]
  show Result.ok (Value.int .u32 ((((a.toNat + b.toNat) % 4294967296 : Nat)) : Int)) w = Result.ok (Value.int .u32 (((a + b).toNat : Nat) : Int)) w
  rw [UInt32.toNat_add]
theorem bin_shl_u32 (a : UInt32) (k : IntKind) (c : Nat) : Bin P .shl t x y (V32 a) (.int k (c : Int)) (V32 (if c < 32 then a <<< UInt32.ofNat c else 0)) := bin_of_int fun w => by
  have h0 : ¬ ((c : Int) < 0) := by omega
  show ((Op.shift .shl .u32 (a.toNat : Int) k (c : Int))).run P w = _
  have h : IntKind.u32.wrap ((a.toNat : Int) * 2 ^ (min c 32)) = (((if c < 32 then a <<< UInt32.ofNat c else 0).toNat : Nat) : Int) := by
    have e : (a.toNat : Int) * 2 ^ (min c 32) = ((a.toNat * 2 ^ (min c 32) : Nat) : Int) := by simp
    rw [e, wrap_u32]
    congr 1
    split
    · rename_i hc
      rw [Nat.min_eq_left (by omega), UInt32.toNat_shiftLeft, UInt32.toNat_ofNat', Nat.shiftLeft_eq]
      have hm : c % 4294967296 % 32 = c := by rw [Nat.mod_eq_of_lt (a := c) (b := 4294967296) (by omega)]; exact Nat.mod_eq_of_lt hc
      simp only [Nat.reducePow, hm]
    · rename_i hc
      rw [Nat.min_eq_right (by omega)]
      simp
  simp only [Op.shift, h0, if_false, Int.toNat_natCast, IntKind.bits, h]
  rfl
theorem bin_shr_u32 (a : UInt32) (k : IntKind) (c : Nat) : Bin P .shr t x y (V32 a) (.int k (c : Int)) (V32 (if c < 32 then a >>> UInt32.ofNat c else 0)) := bin_of_int fun w => by
  have h0 : ¬ ((c : Int) < 0) := by omega
  show ((Op.shift .shr .u32 (a.toNat : Int) k (c : Int))).run P w = _
  have h : Int.fdiv (a.toNat : Int) (2 ^ (min c 32)) = (((if c < 32 then a >>> UInt32.ofNat c else 0).toNat : Nat) : Int) := by
    have e : Int.fdiv (a.toNat : Int) (2 ^ (min c 32)) = ((a.toNat / 2 ^ (min c 32) : Nat) : Int) := by
      rw [show ((2 : Int) ^ (min c 32)) = ((2 ^ (min c 32) : Nat) : Int) by simp]
      rw [Int.natCast_ediv, Int.fdiv_eq_ediv_of_nonneg _ (Int.natCast_nonneg _)]
    rw [e]
    congr 1
    split
    · rename_i hc
      rw [Nat.min_eq_left (by omega), UInt32.toNat_shiftRight, UInt32.toNat_ofNat', Nat.shiftRight_eq_div_pow]
      have hm : c % 4294967296 % 32 = c := by rw [Nat.mod_eq_of_lt (a := c) (b := 4294967296) (by omega)]; exact Nat.mod_eq_of_lt hc
      simp only [Nat.reducePow, hm]
    · rename_i hc
      rw [Nat.min_eq_right (by omega)]
      have := lt_u32 a
      simp only [Nat.reducePow] at this ⊢
      rw [Nat.div_eq_of_lt this]; rfl
  simp only [Op.shift, h0, if_false, Int.toNat_natCast, IntKind.bits, h]
  rfl
theorem bin_shlc_u32 (c : Nat) (s : UInt32) (hc : c < 32) (hs : UInt32.ofNat c = s) (a : UInt32) {k : IntKind} : Bin P .shl t x y (V32 a) (.int k (c : Int)) (V32 (a <<< s)) := by
  have h := bin_shl_u32 (P := P) (t := t) (x := x) (y := y) a k c
  rw [if_pos hc, hs] at h
  exact h
theorem bin_shrc_u32 (c : Nat) (s : UInt32) (hc : c < 32) (hs : UInt32.ofNat c = s) (a : UInt32) {k : IntKind} : Bin P .shr t x y (V32 a) (.int k (c : Int)) (V32 (a >>> s)) := by
  have h := bin_shr_u32 (P := P) (t := t) (x := x) (y := y) a k c
  rw [if_pos hc, hs] at h
  exact h
abbrev V64 (x : UInt64) : Value := .int .u64 ((x.toNat : Nat) : Int)
theorem wrap_u64 (n : Nat) : IntKind.u64.wrap (n : Int) = ((n % 18446744073709551616 : Nat) : Int) := by simp [IntKind.wrap, IntKind.bits, IntKind.signed]
theorem lt_u64 (x : UInt64) : x.toNat < 18446744073709551616 := x.toNat_lt
theorem bin_xor_u64 (a b : UInt64) : Bin P .xor t x y (V64 a) (V64 b) (V64 (a ^^^ b)) := bin_of_int fun w => by
  simp only [binOp, Op.intBits, ofInt_nat]
  have h : (IntKind.u64.wrap (((BitVec.ofNat 64 a.toNat) ^^^ (BitVec.ofNat 64 b.toNat)).toNat : Int)) = (((a ^^^ b).toNat : Nat) : Int) := by
    rw [wrap_u64]; congr 1
    have ha := lt_u64 a; have hb := lt_u64 b
    rw [BitVec.toNat_xor, BitVec.toNat_ofNat, BitVec.toNat_ofNat, Nat.mod_eq_of_lt ha, Nat.mod_eq_of_lt hb, UInt64.toNat_xor]
    exact Nat.mod_eq_of_lt (Nat.xor_lt_two_pow (n := 64) ha hb)
  show Result.ok (Value.int .u64 (IntKind.u64.wrap (((BitVec.ofNat 64 a.toNat) ^^^ (BitVec.ofNat 64 b.toNat)).toNat : Int))) w = _
  rw [h]
theorem bin_and_u64 (a b : UInt64) : Bin P .and t x y (V64 a) (V64 b) (V64 (a &&& b)) := bin_of_int fun w => by
  simp only [binOp, Op.intBits, ofInt_nat]
  have h : (IntKind.u64.wrap (((BitVec.ofNat 64 a.toNat) &&& (BitVec.ofNat 64 b.toNat)).toNat : Int)) = (((a &&& b).toNat : Nat) : Int) := by
    rw [wrap_u64]; congr 1
    have ha := lt_u64 a; have hb := lt_u64 b
    rw [BitVec.toNat_and, BitVec.toNat_ofNat, BitVec.toNat_ofNat, Nat.mod_eq_of_lt ha, Nat.mod_eq_of_lt hb, UInt64.toNat_and]
    exact Nat.mod_eq_of_lt (Nat.and_lt_two_pow (n := 64) _ hb)
  show Result.ok (Value.int .u64 (IntKind.u64.wrap (((BitVec.ofNat 64 a.toNat) &&& (BitVec.ofNat 64 b.toNat)).toNat : Int))) w = _
  rw [h]
theorem bin_or_u64 (a b : UInt64) : Bin P .or t x y (V64 a) (V64 b) (V64 (a ||| b)) := bin_of_int fun w => by
  simp only [binOp, Op.intBits, ofInt_nat]
  have h : (IntKind.u64.wrap (((BitVec.ofNat 64 a.toNat) ||| (BitVec.ofNat 64 b.toNat)).toNat : Int)) = (((a ||| b).toNat : Nat) : Int) := by
    rw [wrap_u64]; congr 1
    have ha := lt_u64 a; have hb := lt_u64 b
    rw [BitVec.toNat_or, BitVec.toNat_ofNat, BitVec.toNat_ofNat, Nat.mod_eq_of_lt ha, Nat.mod_eq_of_lt hb, UInt64.toNat_or]
    exact Nat.mod_eq_of_lt (Nat.or_lt_two_pow (n := 64) ha hb)
  show Result.ok (Value.int .u64 (IntKind.u64.wrap (((BitVec.ofNat 64 a.toNat) ||| (BitVec.ofNat 64 b.toNat)).toNat : Int))) w = _
  rw [h]
theorem bin_add_u64 (a b : UInt64) : Bin P .add t x y (V64 a) (V64 b) (V64 (a + b)) := bin_of_int fun w => by
  show Result.ok (Value.int .u64 (IntKind.u64.wrap ((a.toNat : Int) + (b.toNat : Int)))) w = _
  rw [show ((a.toNat : Int) + (b.toNat : Int)) = ((a.toNat + b.toNat : Nat) : Int) by simp, wrap_u64]
  show Result.ok (Value.int .u64 ((((a.toNat + b.toNat) % 18446744073709551616 : Nat)) : Int)) w = Result.ok (Value.int .u64 (((a + b).toNat : Nat) : Int)) w
  rw [UInt64.toNat_add]
theorem bin_mul_u64 (a b : UInt64) : Bin P .mul t x y (V64 a) (V64 b) (V64 (a * b)) := bin_of_int fun w => by
  show Result.ok (Value.int .u64 (IntKind.u64.wrap ((a.toNat : Int) * (b.toNat : Int)))) w = _
  rw [show ((a.toNat : Int) * (b.toNat : Int)) = ((a.toNat * b.toNat : Nat) : Int) by simp, wrap_u64]
  show Result.ok (Value.int .u64 ((((a.toNat * b.toNat) % 18446744073709551616 : Nat)) : Int)) w = Result.ok (Value.int .u64 (((a * b).toNat : Nat) : Int)) w
  rw [UInt64.toNat_mul]
theorem bin_sub_u64 (a b : UInt64) : Bin P .sub t x y (V64 a) (V64 b) (V64 (a - b)) := bin_of_int fun w => by
  show Result.ok (Value.int .u64 (IntKind.u64.wrap ((a.toNat : Int) - (b.toNat : Int)))) w = _
  have h : IntKind.u64.wrap ((a.toNat : Int) - (b.toNat : Int)) = (((a - b).toNat : Nat) : Int) := by
    have ha := lt_u64 a; have hb := lt_u64 b
    have hs : (a - b).toNat = (18446744073709551616 - b.toNat + a.toNat) % 18446744073709551616 := by rw [UInt64.toNat_sub]
    rw [hs]
    simp only [IntKind.wrap, IntKind.bits, IntKind.signed]
    simp
    omega
  rw [h]
theorem bin_shl_u64 (a : UInt64) (k : IntKind) (c : Nat) : Bin P .shl t x y (V64 a) (.int k (c : Int)) (V64 (if c < 64 then a <<< UInt64.ofNat c else 0)) := bin_of_int fun w => by
  have h0 : ¬ ((c : Int) < 0) := by omega
  show ((Op.shift .shl .u64 (a.toNat : Int) k (c : Int))).run P w = _
  have h : IntKind.u64.wrap ((a.toNat : Int) * 2 ^ (min c 64)) = (((if c < 64 then a <<< UInt64.ofNat c else 0).toNat : Nat) : Int) := by
    have e : (a.toNat : Int) * 2 ^ (min c 64) = ((a.toNat * 2 ^ (min c 64) : Nat) : Int) := by simp
    rw [e, wrap_u64]
    congr 1
    split
    · rename_i hc
      rw [Nat.min_eq_left (by omega), UInt64.toNat_shiftLeft, UInt64.toNat_ofNat', Nat.shiftLeft_eq]
      have hm : c % 18446744073709551616 % 64 = c := by rw [Nat.mod_eq_of_lt (a := c) (b := 18446744073709551616) (by omega)]; exact Nat.mod_eq_of_lt hc
      simp only [Nat.reducePow, hm]
    · rename_i hc
      rw [Nat.min_eq_right (by omega)]
      simp
  simp only [Op.shift, h0, if_false, Int.toNat_natCast, IntKind.bits, h]
  rfl
theorem bin_shr_u64 (a : UInt64) (k : IntKind) (c : Nat) : Bin P .shr t x y (V64 a) (.int k (c : Int)) (V64 (if c < 64 then a >>> UInt64.ofNat c else 0)) := bin_of_int fun w => by
  have h0 : ¬ ((c : Int) < 0) := by omega
  show ((Op.shift .shr .u64 (a.toNat : Int) k (c : Int))).run P w = _
  have h : Int.fdiv (a.toNat : Int) (2 ^ (min c 64)) = (((if c < 64 then a >>> UInt64.ofNat c else 0).toNat : Nat) : Int) := by
    have e : Int.fdiv (a.toNat : Int) (2 ^ (min c 64)) = ((a.toNat / 2 ^ (min c 64) : Nat) : Int) := by
      rw [show ((2 : Int) ^ (min c 64)) = ((2 ^ (min c 64) : Nat) : Int) by simp]
      rw [Int.natCast_ediv, Int.fdiv_eq_ediv_of_nonneg _ (Int.natCast_nonneg _)]
    rw [e]
    congr 1
    split
    · rename_i hc
      rw [Nat.min_eq_left (by omega), UInt64.toNat_shiftRight, UInt64.toNat_ofNat', Nat.shiftRight_eq_div_pow]
      have hm : c % 18446744073709551616 % 64 = c := by rw [Nat.mod_eq_of_lt (a := c) (b := 18446744073709551616) (by omega)]; exact Nat.mod_eq_of_lt hc
      simp only [Nat.reducePow, hm]
    · rename_i hc
      rw [Nat.min_eq_right (by omega)]
      have := lt_u64 a
      simp only [Nat.reducePow] at this ⊢
      rw [Nat.div_eq_of_lt this]; rfl
  simp only [Op.shift, h0, if_false, Int.toNat_natCast, IntKind.bits, h]
  rfl
theorem bin_shlc_u64 (c : Nat) (s : UInt64) (hc : c < 64) (hs : UInt64.ofNat c = s) (a : UInt64) {k : IntKind} : Bin P .shl t x y (V64 a) (.int k (c : Int)) (V64 (a <<< s)) := by
  have h := bin_shl_u64 (P := P) (t := t) (x := x) (y := y) a k c
  rw [if_pos hc, hs] at h
  exact h
theorem bin_shrc_u64 (c : Nat) (s : UInt64) (hc : c < 64) (hs : UInt64.ofNat c = s) (a : UInt64) {k : IntKind} : Bin P .shr t x y (V64 a) (.int k (c : Int)) (V64 (a >>> s)) := by
  have h := bin_shr_u64 (P := P) (t := t) (x := x) (y := y) a k c
  rw [if_pos hc, hs] at h
  exact h
theorem bin_eql_u64 (a b : UInt64) : Bin P .eql t x y (V64 a) (V64 b) (BV (a == b)) := bin_of_int fun w => by
  show Result.ok (Value.bool ((a.toNat : Int) == (b.toNat : Int))) w = _
  have h : ((a.toNat : Int) == (b.toNat : Int)) = (a == b) := by rw [Bool.eq_iff_iff]; simp [← UInt64.toNat_inj]; omega
  rw [h]
end
end Go.Proofs.YtdkjdioccpoacaaDoor
set_option linter.unusedSimpArgs false
set_option linter.unusedVariables false
namespace Go.Proofs.YtdkjdioccpoacaaDoor
open Go Go.RowKit
def tabV (n : Nat) (f : Nat → Value) : Array Value := ((List.range n).map f).toArray
@[simp] theorem tabV_size (n : Nat) (f : Nat → Value) : (tabV n f).size = n := by simp [tabV]
theorem tabV_get {n : Nat} {f : Nat → Value} {i : Nat} (h : i < n) : (tabV n f)[i]? = some (f i) := by simp [tabV, h]
theorem tabV_get_none {n : Nat} {f : Nat → Value} {i : Nat} (h : n ≤ i) : (tabV n f)[i]? = none := by simp [tabV, h]
theorem tabV_congr {n : Nat} {f g : Nat → Value} (h : ∀ i, i < n → f i = g i) : tabV n f = tabV n g := by
  unfold tabV; congr 1; exact List.map_congr_left fun i hi => h i (by simpa using hi)
theorem tabV_ext {n : Nat} {f : Nat → Value} {cs : Array Value} (hn : cs.size = n) (h : ∀ i, i < n → cs[i]? = some (f i)) : cs = tabV n f := by
  apply Array.ext_getElem?
  intro i
  by_cases hi : i < n
  · rw [h i hi, tabV_get hi]
  · rw [tabV_get_none (by omega)]; simp; omega
def upd {α : Type} (f : Nat → α) (k : Nat) (v : α) : Nat → α := fun i => if i = k then v else f i
@[simp] theorem upd_same {α : Type} (f : Nat → α) (k : Nat) (v : α) : upd f k v k = v := by simp [upd]
theorem upd_other {α : Type} (f : Nat → α) (k : Nat) (v : α) {i : Nat} (h : i ≠ k) : upd f k v i = f i := by simp [upd, h]
theorem upd_lt {α : Type} {g z : Nat → α} {k : Nat} {v : α} (h : v = g k) (i : Nat) : upd (fun i => if i < k then g i else z i) k v i = if i < k + 1 then g i else z i := by
  subst h
  simp only [upd]
  by_cases h : i = k
  · subst h; simp
  · rw [if_neg h]; by_cases h2 : i < k
    · rw [if_pos h2, if_pos (by omega)]
    · rw [if_neg h2, if_neg (by omega)]
theorem tabV_set {n : Nat} {f : Nat → Value} {k : Nat} {v : Value} : (tabV n f).setIfInBounds k v = tabV n (upd f k v) := by
  refine tabV_ext (by simp) fun i hi => ?_
  rw [Array.getElem?_setIfInBounds]
  by_cases h : k = i
  · subst h; simp [hi]
  · rw [if_neg h, tabV_get hi, upd_other _ _ _ (fun e => h e.symm)]
theorem tabV_extract {m n o : Nat} {f : Nat → Value} (h : o + n ≤ m) : (tabV m f).extract o (o + n) = tabV n (fun j => f (o + j)) := by
  refine tabV_ext (by simp; omega) fun i hi => ?_
  rw [Array.getElem?_extract]
  rw [if_pos (by simp; omega), tabV_get (by omega)]
def arr8 (n : Nat) (f : Nat → UInt8) : Array Value := tabV n (fun i => V8 (f i))
def arr32 (n : Nat) (f : Nat → UInt32) : Array Value := tabV n (fun i => V32 (f i))
def arr64 (n : Nat) (f : Nat → UInt64) : Array Value := tabV n (fun i => V64 (f i))
@[simp] theorem arr8_size (n : Nat) (f : Nat → UInt8) : (arr8 n f).size = n := by simp [arr8]
@[simp] theorem arr32_size (n : Nat) (f : Nat → UInt32) : (arr32 n f).size = n := by simp [arr32]
@[simp] theorem arr64_size (n : Nat) (f : Nat → UInt64) : (arr64 n f).size = n := by simp [arr64]
theorem arr8_get {n : Nat} {f : Nat → UInt8} {i : Nat} (h : i < n) : (arr8 n f)[i]? = some (V8 (f i)) := tabV_get h
theorem arr32_get {n : Nat} {f : Nat → UInt32} {i : Nat} (h : i < n) : (arr32 n f)[i]? = some (V32 (f i)) := tabV_get h
theorem arr64_get {n : Nat} {f : Nat → UInt64} {i : Nat} (h : i < n) : (arr64 n f)[i]? = some (V64 (f i)) := tabV_get h
theorem arr8_set {n : Nat} {f : Nat → UInt8} {k : Nat} {v : UInt8} : (arr8 n f).setIfInBounds k (V8 v) = arr8 n (upd f k v) := by
  unfold arr8; rw [tabV_set]; congr 1; funext i; unfold upd; split <;> rfl
theorem arr32_set {n : Nat} {f : Nat → UInt32} {k : Nat} {v : UInt32} : (arr32 n f).setIfInBounds k (V32 v) = arr32 n (upd f k v) := by
  unfold arr32; rw [tabV_set]; congr 1; funext i; unfold upd; split <;> rfl
theorem arr64_set {n : Nat} {f : Nat → UInt64} {k : Nat} {v : UInt64} : (arr64 n f).setIfInBounds k (V64 v) = arr64 n (upd f k v) := by
  unfold arr64; rw [tabV_set]; congr 1; funext i; unfold upd; split <;> rfl
theorem arr8_congr {n : Nat} {f g : Nat → UInt8} (h : ∀ i, i < n → f i = g i) : arr8 n f = arr8 n g := tabV_congr fun i hi => by rw [h i hi]
theorem arr32_congr {n : Nat} {f g : Nat → UInt32} (h : ∀ i, i < n → f i = g i) : arr32 n f = arr32 n g := tabV_congr fun i hi => by rw [h i hi]
theorem arr64_congr {n : Nat} {f g : Nat → UInt64} (h : ∀ i, i < n → f i = g i) : arr64 n f = arr64 n g := tabV_congr fun i hi => by rw [h i hi]
theorem arr8_extract {m n o : Nat} {f : Nat → UInt8} (h : o + n ≤ m) : (arr8 m f).extract o (o + n) = arr8 n (fun j => f (o + j)) := tabV_extract h
def bytes (l : List UInt8) : Array Value := (l.map V8).toArray
@[simp] theorem bytes_size (l : List UInt8) : (bytes l).size = l.length := by simp [bytes]
theorem bytes_get {l : List UInt8} {i : Nat} : (bytes l)[i]? = l[i]?.map V8 := by simp [bytes]
def Blk (w : World) (b : Nat) (t : TypeId) (cs : Array Value) : Prop := ∃ fr : Nat × Nat, w.heap[b]? = some (.cells cs t fr) ∧ (fr.1 = fr.2 ∨ cs.size ≤ fr.1)
theorem Blk.cell {w : World} {b : Nat} {t : TypeId} {cs : Array Value} (h : Blk w b t cs) {o : Nat} {v : Value} (hv : cs[o]? = some v) : w.cell? ⟨b, o, none⟩ = some v := by
  obtain ⟨fr, h, _⟩ := h
  simp [World.cell?, h, hv]
theorem Blk.free {w : World} {b : Nat} {t : TypeId} {cs : Array Value} (h : Blk w b t cs) {o : Nat} (ho : o < cs.size) : w.frozen? ⟨b, o, none⟩ = false := by
  obtain ⟨fr, h, hf⟩ := h
  have := ho
  simp only [World.frozen?, h]
  simp only [Bool.and_eq_false_iff, decide_eq_false_iff_not, Nat.not_le, Nat.not_lt]
  omega
theorem Blk.lt {w : World} {b : Nat} {t : TypeId} {cs : Array Value} (h : Blk w b t cs) : b < w.heap.size := by
  obtain ⟨fr, h, _⟩ := h
  exact (Array.getElem?_eq_some_iff.1 h).1
theorem Blk.of_heap {w w' : World} {b : Nat} {t : TypeId} {cs : Array Value} (h : Blk w b t cs) (e : w'.heap[b]? = w.heap[b]?) : Blk w' b t cs := by
  obtain ⟨fr, h, hf⟩ := h
  exact ⟨fr, by rw [e, h], hf⟩
theorem Blk.set {w : World} {b : Nat} {t : TypeId} {cs : Array Value} (h : Blk w b t cs) (o : Nat) (v : Value) : Blk (w.setCell ⟨b, o, none⟩ v) b t (cs.setIfInBounds o v) := by
  obtain ⟨fr, h, hf⟩ := h
  exact ⟨fr, by simp [World.setCell, Array.getElem?_modify, h], by simpa using hf⟩
theorem Blk.mark {w : World} {b : Nat} {t : TypeId} {cs : Array Value} (h : Blk w b t cs) : Blk (w.freeze ⟨b, cs.size, none⟩ 1) b t cs := by
  obtain ⟨⟨lo, hi⟩, h, hf⟩ := h
  refine ⟨if lo == hi then (cs.size, cs.size + 1) else (min lo cs.size, max hi (cs.size + 1)), by simp [World.freeze, Array.getElem?_modify, h], ?_⟩
  by_cases e : lo = hi
  · rw [if_pos (by simpa using e)]; exact .inr (Nat.le_refl _)
  · rw [if_neg (by simpa using e)]
    rcases hf with hf | hf
    · exact absurd hf e
    · refine .inr ?_
      have : cs.size ≤ lo := hf
      show cs.size ≤ min lo cs.size
      omega
theorem heap_freeze_other (w : World) (a : Addr) (n : Nat) {k : Nat} (h : k ≠ a.block) : (w.freeze a n).heap[k]? = w.heap[k]? := by
  unfold World.freeze
  split
  · rfl
  · simp only [Array.getElem?_modify]
    rw [if_neg (fun e => h e.symm)]
theorem heap_set_other (w : World) (a : Addr) (v : Value) {k : Nat} (h : k ≠ a.block) : (w.setCell a v).heap[k]? = w.heap[k]? := heap_setCell_other w a k v h
theorem heap_set_size (w : World) (a : Addr) (v : Value) : (w.setCell a v).heap.size = w.heap.size := by simp [World.setCell]
theorem Blk.new (w : World) (t : TypeId) (cs : Array Value) : Blk (w.alloc (.cells cs t)) w.heap.size t cs := ⟨(0, 0), Go.heap_alloc_new w _, .inl rfl⟩
structure Chg (S : List Nat) (w w' : World) : Prop where
  os : w'.os = w.os
  tape : w'.tape = w.tape
  output : w'.output = w.output
  size : w.heap.size ≤ w'.heap.size
  block : ∀ k, k < w.heap.size → k ∉ S → w'.heap[k]? = w.heap[k]?
theorem Chg.refl (S : List Nat) (w : World) : Chg S w w := ⟨rfl, rfl, rfl, Nat.le_refl _, fun _ _ _ => rfl⟩
theorem Chg.trans {S : List Nat} {a b c : World} (h : Chg S a b) (k : Chg S b c) : Chg S a c :=
  ⟨k.os.trans h.os, k.tape.trans h.tape, k.output.trans h.output, Nat.le_trans h.size k.size, fun i hi hn => (k.block i (Nat.lt_of_lt_of_le hi h.size) hn).trans (h.block i hi hn)⟩
theorem Chg.trans' {S T : List Nat} {a b c : World} (h : Chg S a b) (k : Chg T b c) (hT : ∀ x ∈ T, x < a.heap.size → x ∈ S) : Chg S a c :=
  ⟨k.os.trans h.os, k.tape.trans h.tape, k.output.trans h.output, Nat.le_trans h.size k.size, fun i hi hn => (k.block i (Nat.lt_of_lt_of_le hi h.size) (fun hm => hn (hT i hm hi))).trans (h.block i hi hn)⟩
theorem Chg.weak {S T : List Nat} {w w' : World} (h : Chg S w w') (hs : ∀ x ∈ S, x ∈ T) : Chg T w w' := ⟨h.os, h.tape, h.output, h.size, fun k hk hn => h.block k hk fun hm => hn (hs k hm)⟩
theorem Chg.drew {S : List Nat} {a w : World} (h : Chg S a w) : Chg S a w.drew := ⟨h.os, h.tape, h.output, h.size, h.block⟩
theorem Chg.alloc {S : List Nat} {a w : World} (h : Chg S a w) (o : Obj) : Chg S a (w.alloc o) :=
  h.trans ⟨rfl, rfl, rfl, by simp, fun k hk _ => Below.heap_alloc _ _ _ (by omega)⟩
theorem Chg.setCell {S : List Nat} {a w : World} (h : Chg S a w) {p : Addr} (hp : a.heap.size ≤ p.block ∨ p.block ∈ S) (u : Value) : Chg S a (w.setCell p u) where
  os := h.os
  tape := h.tape
  output := h.output
  size := by rw [heap_set_size]; exact h.size
  block k hk hn := by
    have hne : k ≠ p.block := by
      rcases hp with hp | hp
      · omega
      · intro e; exact hn (e ▸ hp)
    rw [heap_set_other _ _ _ hne]; exact h.block k hk hn
theorem Chg.below {w w' : World} (h : Chg [] w w') : Below w.heap.size w w' := ⟨h.os, h.tape, h.output, h.size, fun k hk => h.block k hk (by simp)⟩
theorem Chg.cell {S : List Nat} {w w' : World} (h : Chg S w w') {p : Addr} {v : Value} (hv : w.cell? p = some v) (hn : p.block ∉ S) : w'.cell? p = some v := by
  rw [← hv]
  exact World.cell?_of_block (w := w) (h.block p.block (block_lt_of_cell hv) hn)
theorem Chg.blk {S : List Nat} {w w' : World} (h : Chg S w w') {b : Nat} {t : TypeId} {cs : Array Value} (hb : Blk w b t cs) (hn : b ∉ S) : Blk w' b t cs := hb.of_heap (h.block b hb.lt hn)
theorem Chg.nil_blk {w w' : World} (h : Chg [] w w') {b : Nat} {t : TypeId} {cs : Array Value} (hb : Blk w b t cs) : Blk w' b t cs := h.blk hb (by simp)
theorem Chg.nil_cell {w w' : World} (h : Chg [] w w') {p : Addr} {v : Value} (hv : w.cell? p = some v) : w'.cell? p = some v := h.cell hv (by simp)
abbrev Own := Option Nat × TypeId × Array Value
def Own.at (e : Own) : Option Nat := e.1
structure Hp (S : List Nat) (w0 w : World) (L : List Own) : Prop where
  chg : Chg S w0 w
  own : ∀ e ∈ L, ∀ b, e.1 = some b → (w0.heap.size ≤ b ∨ b ∈ S) ∧ Blk w b e.2.1 e.2.2
  apart : ∀ (i j b : Nat), (L[i]?).bind Own.at = some b → (L[j]?).bind Own.at = some b → i = j
theorem Hp.start (S : List Nat) (w : World) : Hp S w w [] := ⟨.refl _ _, by simp, by simp⟩
theorem Hp.blk {S : List Nat} {w0 w : World} {L : List Own} (h : Hp S w0 w L) (i : Nat) {b : Nat} {t : TypeId} {cs : Array Value} (hi : L[i]? = some (some b, t, cs)) : Blk w b t cs := (h.own _ (List.mem_of_getElem? hi) b rfl).2
theorem Hp.mine {S : List Nat} {w0 w : World} {L : List Own} (h : Hp S w0 w L) (i : Nat) {b : Nat} {t : TypeId} {cs : Array Value} (hi : L[i]? = some (some b, t, cs)) : w0.heap.size ≤ b ∨ b ∈ S := (h.own _ (List.mem_of_getElem? hi) b rfl).1
theorem Hp.drew {S : List Nat} {w0 w : World} {L : List Own} (h : Hp S w0 w L) : Hp S w0 w.drew L := ⟨h.chg.drew, fun e he b hb => ⟨(h.own e he b hb).1, (h.own e he b hb).2.of_heap rfl⟩, h.apart⟩
theorem Hp.lt {S : List Nat} {w0 w : World} {L : List Own} (h : Hp S w0 w L) {e : Own} (he : e ∈ L) {b : Nat} (hb : e.1 = some b) : b < w.heap.size := (h.own e he b hb).2.lt
theorem Hp.other {S : List Nat} {w0 w : World} {L : List Own} (h : Hp S w0 w L) {i : Nat} {b : Nat} {t : TypeId} {cs : Array Value} (hi : L[i]? = some (some b, t, cs)) {j : Nat} {e' : Own} (hj : L[j]? = some e') (hij : i ≠ j) {b' : Nat} (hb' : e'.1 = some b') : b' ≠ b := by
  intro he
  exact hij (h.apart i j b (by rw [hi]; rfl) (by rw [hj]; exact he ▸ hb'))
theorem Hp.turn {S : List Nat} {w0 w w' : World} {L : List Own} (h : Hp S w0 w L) (i : Nat) {e : Own} (hi : L[i]? = some e) (e' : Own) (hc : Chg S w0 w')
    (hb : ∀ b, e'.1 = some b → (w0.heap.size ≤ b ∨ b ∈ S) ∧ Blk w' b e'.2.1 e'.2.2) (hd : ∀ b, e'.1 = some b → e.1 = some b ∨ w.heap.size ≤ b)
    (ho : ∀ k, e.1 ≠ some k → k < w.heap.size → w'.heap[k]? = w.heap[k]?) : Hp S w0 w' (L.set i e') where
  chg := hc
  own x hx b hxb := by
    obtain ⟨j, hj⟩ := List.mem_iff_getElem?.1 hx
    rw [List.getElem?_set] at hj
    split at hj
    · split at hj
      · cases hj; exact hb b hxb
      · cases hj
    · rename_i hij
      have hm := List.mem_of_getElem? hj
      refine ⟨(h.own x hm b hxb).1, (h.own x hm b hxb).2.of_heap (ho b ?_ (h.lt hm hxb))⟩
      intro he
      exact hij (h.apart i j b (by rw [hi]; exact he) (by rw [hj]; exact hxb))
  apart j k b hj hk := by
    have key : ∀ m : Nat, ((L.set i e')[m]?).bind Own.at = some b → (m = i ∧ e'.1 = some b) ∨ (m ≠ i ∧ (L[m]?).bind Own.at = some b) := by
      intro m hm
      rw [List.getElem?_set] at hm
      split at hm
      · split at hm
        · rename_i h1 h2; exact .inl ⟨h1.symm, hm⟩
        · simp at hm
      · rename_i h1; exact .inr ⟨fun e => h1 e.symm, hm⟩
    have old : ∀ m : Nat, m ≠ i → (L[m]?).bind Own.at = some b → e'.1 = some b → False := by
      intro m hmi hm he
      obtain ⟨x, hx, hxb⟩ := Option.bind_eq_some_iff.1 hm
      rcases hd b he with h1 | h1
      · exact hmi (h.apart m i b hm (by rw [hi]; exact h1))
      · have := h.lt (List.mem_of_getElem? hx) hxb; omega
    rcases key j hj with ⟨hji, hj1⟩ | ⟨hji, hj1⟩ <;> rcases key k hk with ⟨hki, hk1⟩ | ⟨hki, hk1⟩
    · omega
    · exact (old k hki hk1 hj1).elim
    · exact (old j hji hj1 hk1).elim
    · exact h.apart j k b hj1 hk1
theorem Hp.put {S : List Nat} {w0 w w' : World} {L : List Own} (h : Hp S w0 w L) (i : Nat) {b : Nat} {t : TypeId} {cs cs' : Array Value} (hi : L[i]? = some (some b, t, cs))
    (hc : Chg S w0 w') (hb : Blk w' b t cs') (ho : ∀ k, k ≠ b → k < w.heap.size → w'.heap[k]? = w.heap[k]?) : Hp S w0 w' (L.set i (some b, t, cs')) :=
  h.turn i hi _ hc (fun b' hb' => by cases hb'; exact ⟨h.mine i hi, hb⟩) (fun b' hb' => .inl hb') fun k hk hlt => ho k (fun e => hk (e ▸ rfl)) hlt
theorem Hp.store {S : List Nat} {w0 w : World} {L : List Own} (h : Hp S w0 w L) (i : Nat) {b : Nat} {t : TypeId} {cs : Array Value} (hi : L[i]? = some (some b, t, cs)) (o : Nat) (v : Value) :
    Hp S w0 (w.setCell ⟨b, o, none⟩ v) (L.set i (some b, t, cs.setIfInBounds o v)) :=
  h.put i hi (h.chg.setCell (h.mine i hi) v) ((h.blk i hi).set o v) fun k hk _ => heap_set_other _ _ _ hk
theorem Hp.call {S : List Nat} {w0 w w' : World} {L : List Own} (h : Hp S w0 w L) (hc : Chg [] w w') : Hp S w0 w' L :=
  ⟨h.chg.trans' hc (by simp), fun e he b hb => ⟨(h.own e he b hb).1, hc.nil_blk (h.own e he b hb).2⟩, h.apart⟩
theorem Hp.callw {S : List Nat} {w0 w w' : World} {L : List Own} (h : Hp S w0 w L) (i : Nat) {b : Nat} {t : TypeId} {cs cs' : Array Value} (hi : L[i]? = some (some b, t, cs)) (hc : Chg [b] w w') (hb : Blk w' b t cs') : Hp S w0 w' (L.set i (some b, t, cs')) := by
  refine h.put i hi (h.chg.trans' hc ?_) hb fun k hk hlt => hc.block k hlt (by simpa using hk)
  intro x hx hlt
  simp only [List.mem_singleton] at hx
  subst hx
  rcases h.mine i hi with h1 | h1
  · omega
  · exact h1
theorem Hp.add {S : List Nat} {w0 w : World} {L : List Own} (h : Hp S w0 w L) (e : Own) (hb : ∀ b, e.1 = some b → (w0.heap.size ≤ b ∨ b ∈ S) ∧ Blk w b e.2.1 e.2.2) (hn : ∀ x ∈ L, ∀ b, e.1 = some b → x.1 ≠ some b) : Hp S w0 w (L ++ [e]) where
  chg := h.chg
  own x hx := by
    rcases List.mem_append.1 hx with hx | hx
    · exact h.own x hx
    · simp only [List.mem_singleton] at hx; subst hx; exact hb
  apart i j b hi hj := by
    have key : ∀ m : Nat, ((L ++ [e])[m]?).bind Own.at = some b → (m < L.length ∧ (L[m]?).bind Own.at = some b) ∨ (m = L.length ∧ e.1 = some b) := by
      intro m hm
      rw [List.getElem?_append] at hm
      split at hm
      · rename_i h1; exact .inl ⟨h1, hm⟩
      · rename_i h1
        obtain ⟨x, hx, hxb⟩ := Option.bind_eq_some_iff.1 hm
        have h0 : m - L.length = 0 := by
          cases hz : m - L.length with
          | zero => rfl
          | succ n => rw [hz] at hx; simp at hx
        rw [h0] at hx; simp at hx; subst hx
        exact .inr ⟨by omega, hxb⟩
    have old : ∀ m : Nat, (L[m]?).bind Own.at = some b → e.1 = some b → False := by
      intro m hm he
      obtain ⟨x, hx, hxb⟩ := Option.bind_eq_some_iff.1 hm
      exact hn x (List.mem_of_getElem? hx) b he hxb
    rcases key i hi with ⟨_, hi⟩ | ⟨hi', hi⟩ <;> rcases key j hj with ⟨_, hj⟩ | ⟨hj', hj⟩
    · exact h.apart i j b hi hj
    · exact (old i hi hj).elim
    · exact (old j hj hi).elim
    · omega
theorem Hp.nil {S : List Nat} {w0 w : World} {L : List Own} (h : Hp S w0 w L) (t : TypeId) : Hp S w0 w (L ++ [(none, t, #[])]) := h.add _ (fun b hb => by cases hb) (fun x _ b hb => by cases hb)
theorem Hp.callnew {S : List Nat} {w0 w w' : World} {L : List Own} (h : Hp S w0 w L) (hc : Chg [] w w') {b : Nat} {t : TypeId} {cs : Array Value} (hb : Blk w' b t cs) (hn : w.heap.size ≤ b) : Hp S w0 w' (L ++ [(some b, t, cs)]) :=
  (h.call hc).add _ (fun b' hb' => by cases hb'; exact ⟨.inl (Nat.le_trans h.chg.size hn), hb⟩) (fun x hx b' hb' hxb => by cases hb'; have := h.lt hx hxb; omega)
theorem Hp.alloc {S : List Nat} {w0 w : World} {L : List Own} (h : Hp S w0 w L) (t : TypeId) (cs : Array Value) : Hp S w0 (w.alloc (.cells cs t)) (L ++ [(some w.heap.size, t, cs)]) :=
  h.callnew ((Chg.refl [] w).alloc _) (Blk.new w t cs) (Nat.le_refl _)
theorem Hp.mark {S : List Nat} {w0 w : World} {L : List Own} (h : Hp S w0 w L) (i : Nat) {b : Nat} {t : TypeId} {cs : Array Value} (hi : L[i]? = some (some b, t, cs)) : Hp S w0 (w.freeze ⟨b, cs.size, none⟩ 1) (L.set i (some b, t, cs)) := by
  refine h.put i hi ⟨?_, ?_, ?_, ?_, ?_⟩ (h.blk i hi).mark fun k hk _ => heap_freeze_other _ _ _ hk
  · exact h.chg.os
  · exact h.chg.tape
  · exact h.chg.output
  · have : (w.freeze ⟨b, cs.size, none⟩ 1).heap.size = w.heap.size := by simp [World.freeze]
    rw [this]; exact h.chg.size
  · intro k hk hn
    rw [heap_freeze_other]
    · exact h.chg.block k hk hn
    · intro e
      have e' : k = b := e
      subst e'
      rcases h.mine i hi with h1 | h1
      · omega
      · exact hn h1
theorem Hp.callown {S : List Nat} {w0 w w' : World} {L : List Own} (h : Hp S w0 w L) (hc : Chg [] w w') {o : Option Nat} {t : TypeId} {cs : Array Value} (hb : ∀ b, o = some b → w.heap.size ≤ b ∧ Blk w' b t cs) : Hp S w0 w' (L ++ [(o, t, cs)]) :=
  (h.call hc).add _ (fun b hb' => ⟨.inl (Nat.le_trans h.chg.size (hb b hb').1), (hb b hb').2⟩) (fun x hx b hb' hxb => by have := h.lt hx hxb; have := (hb b hb').1; omega)
theorem Hp.owned {w0 w : World} {L : List Own} (h : Hp [] w0 w L) (i : Nat) {o : Option Nat} {t : TypeId} {cs : Array Value} (hi : L[i]? = some (o, t, cs)) : ∀ b, o = some b → w0.heap.size ≤ b ∧ Blk w b t cs := fun b hb =>
  have := h.own _ (List.mem_of_getElem? hi) b hb
  ⟨this.1.resolve_right (by simp), this.2⟩
end Go.Proofs.YtdkjdioccpoacaaDoor
set_option linter.unusedSimpArgs false
set_option linter.unusedVariables false
namespace Go.Proofs.YtdkjdioccpoacaaDoor
open Go
section
variable {P : Program} {ops : Array Oper} {Q : Exit → Act → World → Prop} {md : Region.Mode}
def anyW : World → World → Prop := fun _ _ => True
def Qt (P : Program) (ops : Array Oper) (o : Oper) (v : Value) (R : World → World → Prop) (w : World) (a : Act) : Prop :=
  (Region.wanted o (yielded ops a.tmps) = true ∧ ∀ w', R w w' → o.quietAt P a (Chg [] w') w' v) ∨
  (Region.wanted o (yielded ops a.tmps) = false ∧ v = undef)
structure Far (R : World → World → Prop) : Prop where
  of : ∀ w w', Chg [] w w' → R w w'
  trans : ∀ a b c, R a b → R b c → R a c
theorem Far.any : Far anyW := ⟨fun _ _ _ => trivial, fun _ _ _ _ _ => trivial⟩
theorem Far.grown : Far (Chg []) := ⟨fun _ _ h => h, fun _ _ _ h k => h.trans k⟩
theorem Far.chg (S : List Nat) : Far (Chg S) := ⟨fun _ _ h => h.weak (by simp), fun _ _ _ h k => h.trans k⟩
theorem Qt.of_same {o : Oper} {v : Value} {R : World → World → Prop} {w : World} {a a' : Act} (hy : Qt P ops o v R w a) (he : execOp a'.eval o = execOp a.eval o)
    (hw : Region.wanted o (yielded ops a'.tmps) = Region.wanted o (yielded ops a.tmps)) : Qt P ops o v R w a' := by
  unfold Qt Oper.quietAt at *
  rw [he, hw]
  exact hy
theorem Qt.grow {o : Oper} {v : Value} {R : World → World → Prop} (hR : Far R) {w w' : World} {a : Act} (hy : Qt P ops o v R w a) (h : R w w') : Qt P ops o v R w' a := by
  rcases hy with ⟨h1, h2⟩ | h1
  · exact .inl ⟨h1, fun w2 h3 => h2 w2 (hR.trans _ _ _ h h3)⟩
  · exact .inr h1
theorem Qt.wpOp {i : Nat} {o : Oper} {v : Value} {R : World → World → Prop} (hR : Far R) {a : Act} {w : World} (hi : ops[i]? = some o) (hy : Qt P ops o v R w a) {K : Act → World → Prop} (h : ∀ w', Chg [] w w' → K (a.put o.dst v) w') : wpOp P ops Q i K a w := by
  unfold Go.wpOp
  simp only [hi]
  rcases hy with ⟨hw, hv⟩ | ⟨hw, rfl⟩
  · simp only [hw, if_true]
    refine .inl ?_
    have hv := hv w (hR.of _ _ (.refl _ _))
    unfold Oper.quietAt at hv
    unfold Oper.wp
    generalize (execOp a.eval o).run P w = r at hv
    cases r with
    | ok n w' =>
      cases n <;> simp only [Oper.quietUpon] at hv <;> simp only [Oper.upon]
      case value u => obtain ⟨e1, e2⟩ := hv; rw [e1, e2]; exact h _ (.refl _ _)
      case skip => obtain ⟨e1, e2⟩ := hv; rw [e1, ← e2]; exact h _ (.refl _ _)
      case enter f args =>
        obtain ⟨e1, hc⟩ := hv
        rw [e1]
        exact hc.mono fun e w'' ⟨he, hw''⟩ => by subst he; exact h _ hw''
    | halt x w' => simp only [Oper.quietUpon] at hv
  · simp only [hw, Bool.false_eq_true, if_false]; exact h _ (.refl _ _)
theorem wpOp_putY {j : Nat} {oi oj : Oper} {v : Value} (Y : Act → Prop) (hj : ops[j]? = some oj) (h1 : ∀ d, oi.dst = some d → d ∉ oj.looksAt ops) (h2 : ∀ d, oi.dst = some d → oj.dst ≠ some d)
    (hsj : ∀ cs b, oj.op ≠ .select cs b) (hQ : ∀ c a w, Q (.panic c) (a.put oi.dst v) w → Q (.panic c) a w) {K : Act → World → Prop} {a : Act} {w : World}
    (keep : ∀ u, Y (a.put oj.dst u)) (keepD : ∀ d, Y (({ a with defers := d :: a.defers } : Act).put oj.dst undef)) (h : wpOp P ops Q j K (a.put oi.dst v) w) :
    wpOp P ops Q j (fun a' w' => Y a' ∧ K (a'.put oi.dst v) w') a w := by
  unfold wpOp at *
  simp only [hj] at *
  rw [wanted_put oj a oi.dst v h1] at h
  by_cases hw : Region.wanted oj (yielded ops a.tmps) = true
  · rw [if_pos hw] at h ⊢
    rcases h with h | ⟨ha, hl⟩
    · refine .inl ?_
      unfold Oper.wp at *
      rw [execOp_put oj hsj a oi.dst v h1] at h
      cases hr : (execOp a.eval oj).run P w with
      | ok n w' =>
        rw [hr] at h
        cases n <;> simp only [Oper.upon] at h ⊢
        case value u => exact ⟨keep u, Act.put_comm a v u h2 ▸ h⟩
        case skip => exact ⟨keep _, Act.put_comm a v undef h2 ▸ h⟩
        case defer d => exact ⟨keepD d, by rw [← Act.put_comm _ v undef h2, ← Act.put_defers]; exact h⟩
        case enter f args =>
          refine Calls.mono h fun e w'' he => ?_
          cases e with
          | returned u => exact ⟨keep u, Act.put_comm a v u h2 ▸ he⟩
          | panicked c => exact hQ _ _ _ he
          | outgrown => exact he
        case row row args => exact Rows.mono h fun u w'' he => ⟨keep u, Act.put_comm a v u h2 ▸ he⟩
      | halt x w' =>
        rw [hr] at h
        cases x <;> simp only [Oper.upon] at h ⊢
        case panic u => exact hQ _ _ _ h
    · exact .inr ⟨by unfold Oper.asks at *; rw [execOp_put oj hsj a oi.dst v h1] at ha; exact ha, hl⟩
  · rw [if_neg hw] at h ⊢
    exact ⟨keep _, Act.put_comm a v undef h2 ▸ h⟩
def eff (E M : List Nat) (R0 : World → World → Prop) (i : Nat) (w w' : World) : Prop := (E.contains i = false → R0 w w') ∧ (E.contains i = false → M.contains i = false → Chg [] w w')
theorem eff.grown {E M : List Nat} {R0 : World → World → Prop} (hR : Far R0) {i : Nat} {w w' : World} (h : Chg [] w w') : eff E M R0 i w w' := ⟨fun _ => hR.of _ _ h, fun _ _ => h⟩
def wpAnyR (P : Program) (md : Region.Mode) (ops : Array Oper) (Q : Exit → Act → World → Prop) (E M : List Nat) (R0 : World → World → Prop) : Nat → Array Bool → Act → World → Prop
  | 0, listed, a, w => ∀ w1, Chg [] w w1 → Region.ready md ops listed = [] ∧ Q .normal a w1
  | fuel + 1, listed, a, w => ∀ w1, Chg [] w w1 →
    (Region.ready md ops listed = [] → Q .normal a w1) ∧
    ∀ i ∈ Region.ready md ops listed, wpOp P ops Q i (fun a' w' => eff E M R0 i w1 w' ∧ wpAnyR P md ops Q E M R0 fuel (listed.setIfInBounds i true) a' w') a w1
theorem wpAny_of_R {E M : List Nat} {R0 : World → World → Prop} : ∀ (fuel : Nat) (listed : Array Bool) (a : Act) (w : World), wpAnyR P md ops Q E M R0 fuel listed a w → wpAny P md ops Q fuel listed a w
  | 0, _, _, w, h => h w (.refl _ _)
  | fuel + 1, _, _, w, h => ⟨(h w (.refl _ _)).1, fun i hi => wpOp_mono (fun a' w' h' => wpAny_of_R fuel _ a' w' h'.2) ((h w (.refl _ _)).2 i hi)⟩
theorem wpAnyR.grow {E M : List Nat} {R0 : World → World → Prop} {fuel : Nat} {listed : Array Bool} {a : Act} {w w' : World} (h : wpAnyR P md ops Q E M R0 fuel listed a w) (hc : Chg [] w w') : wpAnyR P md ops Q E M R0 fuel listed a w' := by
  cases fuel with
  | zero => exact fun w1 h1 => h w1 (hc.trans h1)
  | succ fuel => exact fun w1 h1 => h w1 (hc.trans h1)
theorem wpAnyR_first {E M : List Nat} {R0 R : World → World → Prop} (hR0 : Far R0) (hR : Far R) {i : Nat} {oi : Oper} {v : Value} (hi : ops[i]? = some oi) (hsel : ∀ (j : Nat) (o : Oper) cs b, ops[j]? = some o → o.op ≠ .select cs b)
    (hQ : ∀ c a w, Q (.panic c) (a.put oi.dst v) w → Q (.panic c) a w) (S : Nat → Bool)
    (hS : ∀ j oj, ops[j]? = some oj → j ≠ i → (∀ e ∈ oj.after, Region.binds md e = true → S e.on = true) → S j = true) :
    ∀ (fuel : Nat) (listed : Array Bool) (a : Act) (w : World),
      (∀ k, listed.getD k false = true → S k = true) →
      (∀ j oj, ops[j]? = some oj → j ≠ i → S j = true → listed.getD j true = false → ((∀ w w', eff E M R0 j w w' → R w w') ∧ oi.apart ops oj = true)) →
      i ∈ Region.ready md ops listed → Qt P ops oi v R w a →
      wpAnyR P md ops Q E M R0 fuel (listed.setIfInBounds i true) (a.put oi.dst v) w → wpAnyR P md ops Q E M R0 (fuel + 1) listed a w := by
  intro fuel
  induction fuel with
  | zero =>
    intro listed a w hL hfree hr hy H w1 hw1
    refine ⟨fun h => (by rw [h] at hr; cases hr), fun j hj => ?_⟩
    by_cases hji : j = i
    · subst hji
      exact (hy.grow hR (hR.of _ _ hw1)).wpOp hR hi fun w' hw' => ⟨.grown hR0 hw', H.grow (hw1.trans hw')⟩
    · have := ready_mono hj hji
      rw [(H w (.refl _ _)).1] at this
      cases this
  | succ fuel ih =>
    intro listed a w hL hfree hr hy H w1 hw1
    refine ⟨fun h => (by rw [h] at hr; cases hr), fun j hj => ?_⟩
    by_cases hji : j = i
    · subst hji
      exact (hy.grow hR (hR.of _ _ hw1)).wpOp hR hi fun w' hw' => ⟨.grown hR0 hw', H.grow (hw1.trans hw')⟩
    · have h1 := (H w1 hw1).2 j (ready_mono hj hji)
      obtain ⟨hjun, oj, hoj, hall⟩ := mem_ready.1 hj
      have hSj : S j = true := hS j oj hoj hji fun e he hb => hL _ (hall e he hb)
      obtain ⟨hjE, hap⟩ := hfree j oj hoj hji hSj hjun
      obtain ⟨a1, a2, a3⟩ := Oper.apart_spec hap
      have keep : ∀ (a : Act) u, Qt P ops oi v R w1 a → Qt P ops oi v R w1 (a.put oj.dst u) := fun a u hy =>
        hy.of_same (execOp_put oi (fun cs b => hsel i oi cs b hi) a oj.dst u a3) (wanted_put oi a oj.dst u a3)
      have hy1 := hy.grow hR (hR.of _ _ hw1)
      have h2 := wpOp_putY (fun a => Qt P ops oi v R w1 a) hoj a1 a2 (fun cs b => hsel j oj cs b hoj) hQ (fun u => keep a u hy1) (fun d => keep _ undef (hy1.of_same rfl rfl)) h1
      have hL' : ∀ k, (listed.setIfInBounds j true).getD k false = true → S k = true := by
        intro k hk
        by_cases hjk : j = k
        · subst hjk; exact hSj
        · rw [getD_set_ne false hjk] at hk; exact hL k hk
      have hfree' : ∀ k ok, ops[k]? = some ok → k ≠ i → S k = true → (listed.setIfInBounds j true).getD k true = false → ((∀ w w', eff E M R0 k w w' → R w w') ∧ oi.apart ops ok = true) := by
        intro k ok hk hki hSk hun
        refine hfree k ok hk hki hSk ?_
        by_cases hjk : j = k
        · subst hjk; exact hjun
        · rw [getD_set_ne true hjk] at hun; exact hun
      refine wpOp_mono (fun a' w' h3 => ⟨h3.2.1, ?_⟩) h2
      obtain ⟨h3a, h3b, h3c⟩ := h3
      refine ih (listed.setIfInBounds j true) a' w' hL' hfree' (ready_mono hr (Ne.symm hji)) (h3a.grow hR (hjE _ _ h3b)) ?_
      rw [Array.setIfInBounds_comm _ _ hji]
      exact h3c
structure Row where
  after : List Nat
  looks : List Nat
  dst : Option Nat
  deriving DecidableEq
def rowOf (md : Region.Mode) (ops : Array Oper) (o : Oper) : Row :=
  { after := (o.after.toList.filter (Region.binds md ·)).map (·.on), looks := o.looksAt ops, dst := o.dst }
def tabOf (md : Region.Mode) (ops : Array Oper) : List Row := ops.toList.map (rowOf md ops)
def Row.apart (x y : Row) : Bool :=
  (match x.dst with
   | some d => !(y.looks).contains d && y.dst != some d
   | none => true) &&
  (match y.dst with
   | some d => !(x.looks).contains d
   | none => true)
def subset (xs ys : List Nat) : Bool := xs.all (ys.contains ·)
def growth (i : Nat) (b : Bool) (E : List Nat) : List Row → Nat → List Nat → List Nat
  | [], _, S => S
  | r :: rs, j, S => growth i b E rs (j + 1) (if j != i && !(b && E.contains j) && !S.contains j && subset r.after S then j :: S else S)
def closed (i : Nat) (S : List Nat) : List Row → Nat → Bool
  | [], _ => true
  | r :: rs, j => (j == i || S.contains j || !subset r.after S) && closed i S rs (j + 1)
def freeIn (i : Nat) (ri : Row) (pure : Bool) (E S listed : List Nat) : List Row → Nat → Bool
  | [], _ => true
  | r :: rs, j => (j == i || !S.contains j || listed.contains j || ((pure || !E.contains j) && ri.apart r)) && freeIn i ri pure E S listed rs (j + 1)
def readyAt (T : List Row) (listed : List Nat) (i : Nat) : Bool :=
  match T[i]? with
  | some r => !listed.contains i && subset r.after listed
  | none => false
def okTake (T : List Row) (pure : Bool) (E listed : List Nat) (i : Nat) : Bool :=
  match T[i]? with
  | some ri =>
    let S := growth i (!pure) E T 0 listed
    !listed.contains i && subset ri.after listed && !S.contains i && closed i S T 0 && freeIn i ri pure E S listed T 0
  | none => false
def loneAt (listed : List Nat) (k : Nat) : List Row → Nat → Bool
  | [], _ => true
  | r :: rs, j => (j == k || listed.contains j || !subset r.after listed) && loneAt listed k rs (j + 1)
def noneReady (listed : List Nat) : List Row → Nat → Bool
  | [], _ => true
  | r :: rs, j => (listed.contains j || !subset r.after listed) && noneReady listed rs (j + 1)
inductive PStep where
  | p (i : Nat)
  | q (i : Nat)
  | r (i : Nat) (R : World → World → Prop)
  | x (i : Nat)
  | s (i : Nat) (R : World → World → Prop)
  | e (i : Nat)
def effects : List PStep → List Nat
  | [] => []
  | .e i :: r => i :: effects r
  | _ :: r => effects r
def marked : List PStep → List Nat
  | [] => []
  | .s i _ :: r => i :: marked r
  | _ :: r => marked r
def AllR (R0 : World → World → Prop) : List PStep → Prop
  | [] => True
  | .r _ R :: r => R = R0 ∧ AllR R0 r
  | .s _ R :: r => R = R0 ∧ AllR R0 r
  | _ :: r => AllR R0 r
def planOKR (T : List Row) (E M : List Nat) : List PStep → List Nat → Bool
  | [], listed => noneReady listed T 0
  | .p i :: r, listed => okTake T true E listed i && planOKR T E M r (i :: listed)
  | .q i :: r, listed => okTake T false (E ++ M) listed i && planOKR T E M r (i :: listed)
  | .r i _ :: r, listed => okTake T false E listed i && planOKR T E M r (i :: listed)
  | .x k :: r, listed => readyAt T listed k && loneAt listed k T 0 && planOKR T E M r (k :: listed)
  | .s k _ :: r, listed => readyAt T listed k && loneAt listed k T 0 && planOKR T E M r (k :: listed)
  | .e k :: r, listed => readyAt T listed k && loneAt listed k T 0 && planOKR T E M r (k :: listed)
def planOK (T : List Row) (E : List Nat) : List PStep → List Nat → Bool
  | [], listed => noneReady listed T 0
  | .p i :: r, listed => okTake T true E listed i && planOK T E r (i :: listed)
  | .q i :: r, listed => okTake T false E listed i && planOK T E r (i :: listed)
  | .x k :: r, listed => readyAt T listed k && loneAt listed k T 0 && planOK T E r (k :: listed)
  | .e k :: r, listed => readyAt T listed k && loneAt listed k T 0 && planOK T E r (k :: listed)
  | .r _ _ :: _, _ => false
  | .s _ _ :: _, _ => false
theorem planOK_R {T : List Row} {E : List Nat} : ∀ (pl : List PStep) (l : List Nat), planOK T E pl l = true → planOKR T E [] pl l = true ∧ marked pl = [] ∧ AllR (Chg []) pl
  | [], l, h => ⟨h, rfl, trivial⟩
  | .p i :: r, l, h => by
    simp only [planOK, planOKR, Bool.and_eq_true] at h ⊢
    have := planOK_R r _ h.2
    exact ⟨⟨h.1, this.1⟩, this.2.1, this.2.2⟩
  | .q i :: r, l, h => by
    simp only [planOK, planOKR, Bool.and_eq_true, List.append_nil] at h ⊢
    have := planOK_R r _ h.2
    exact ⟨⟨h.1, this.1⟩, this.2.1, this.2.2⟩
  | .x k :: r, l, h => by
    simp only [planOK, planOKR, Bool.and_eq_true] at h ⊢
    have := planOK_R r _ h.2
    exact ⟨⟨h.1, this.1⟩, this.2.1, this.2.2⟩
  | .e k :: r, l, h => by
    simp only [planOK, planOKR, Bool.and_eq_true] at h ⊢
    have := planOK_R r _ h.2
    exact ⟨⟨h.1, this.1⟩, this.2.1, this.2.2⟩
  | .r _ _ :: _, _, h => by simp [planOK] at h
  | .s _ _ :: _, _, h => by simp [planOK] at h
structure Rel (ops : Array Oper) (L : Array Bool) (l : List Nat) : Prop where
  at_ : ∀ k, k < ops.size → L[k]? = some (l.contains k)
  size : L.size = ops.size
  bound : ∀ k ∈ l, k < ops.size
theorem Rel.getDf {L : Array Bool} {l : List Nat} (h : Rel ops L l) (k : Nat) : L.getD k false = l.contains k := by
  by_cases hk : k < ops.size
  · have h1 := h.at_ k hk
    simp [Array.getD_eq_getD_getElem?, h1]
  · have h0 : L[k]? = none := by simp; have := h.size; omega
    have h2 : l.contains k = false := by
      rw [← Bool.not_eq_true, List.contains_iff_mem]
      intro hm; exact hk (h.bound k hm)
    rw [Array.getD_eq_getD_getElem?, h0, h2]; rfl
theorem Rel.getDt {L : Array Bool} {l : List Nat} (h : Rel ops L l) {k : Nat} (hk : k < ops.size) : L.getD k true = l.contains k := by
  have h1 := h.at_ k hk
  simp [Array.getD_eq_getD_getElem?, h1]
theorem Rel.cons {L : Array Bool} {l : List Nat} (h : Rel ops L l) {i : Nat} (hi : i < ops.size) : Rel ops (L.setIfInBounds i true) (i :: l) where
  at_ k hk := by
    rw [Array.getElem?_setIfInBounds]
    by_cases e : i = k
    · subst e; simp [h.size, hi]
    · rw [if_neg e, h.at_ k hk]
      have e' : k ≠ i := fun h => e h.symm
      simp [e']
  size := by simp [h.size]
  bound k hk := by
    rcases List.mem_cons.1 hk with rfl | hk
    · exact hi
    · exact h.bound k hk
theorem Rel.start : Rel ops (Array.replicate ops.size false) [] where
  at_ k hk := by simp [hk]
  size := by simp
  bound k hk := by cases hk
theorem lt_of_get {i : Nat} {o : Oper} (h : ops[i]? = some o) : i < ops.size := (Array.getElem?_eq_some_iff.1 h).1
theorem tab_get {i : Nat} {o : Oper} (h : ops[i]? = some o) : (tabOf md ops)[i]? = some (rowOf md ops o) := by
  unfold tabOf
  rw [List.getElem?_map, Array.getElem?_toList, h]; rfl
theorem tab_get' {i : Nat} {r : Row} (h : (tabOf md ops)[i]? = some r) : ∃ o, ops[i]? = some o ∧ r = rowOf md ops o := by
  unfold tabOf at h
  rw [List.getElem?_map, Array.getElem?_toList] at h
  cases ho : ops[i]? with
  | none => simp [ho] at h
  | some o => simp [ho] at h; exact ⟨o, rfl, h.symm⟩
theorem subset_row {o : Oper} {l : List Nat} : subset (rowOf md ops o).after l = true ↔ ∀ e ∈ o.after, Region.binds md e = true → l.contains e.on = true := by
  unfold subset rowOf
  simp only [List.all_eq_true, List.mem_map, List.mem_filter, forall_exists_index, and_imp]
  constructor
  · intro h e he hb
    exact h e.on e (by simpa using he) hb rfl
  · rintro h x e he hb rfl
    exact h e (by simpa using he) hb
theorem ready_iff {L : Array Bool} {l : List Nat} (h : Rel ops L l) {j : Nat} : j ∈ Region.ready md ops L ↔ l.contains j = false ∧ ∃ o, ops[j]? = some o ∧ subset (rowOf md ops o).after l = true := by
  rw [mem_ready]
  constructor
  · rintro ⟨h0, o, ho, hall⟩
    rw [h.getDt (lt_of_get ho)] at h0
    exact ⟨h0, o, ho, subset_row.2 fun e he hb => by rw [← h.getDf]; exact hall e he hb⟩
  · rintro ⟨h0, o, ho, hall⟩
    refine ⟨by rw [h.getDt (lt_of_get ho)]; exact h0, o, ho, fun e he hb => ?_⟩
    rw [h.getDf]; exact subset_row.1 hall e he hb
theorem closed_spec {i : Nat} {S : List Nat} : ∀ (T : List Row) (n : Nat), closed i S T n = true → ∀ j r, T[j]? = some r → n + j ≠ i → subset r.after S = true → S.contains (n + j) = true
  | [], _, _, j, r, h, _, _ => by simp at h
  | x :: T, n, hc, j, r, h, hji, hs => by
    simp only [closed, Bool.and_eq_true, Bool.or_eq_true, beq_iff_eq, Bool.not_eq_true'] at hc
    cases j with
    | zero =>
      simp at h; subst h
      rcases hc.1 with (h1 | h1) | h1
      · exact absurd h1 (by simpa using hji)
      · simpa using h1
      · rw [hs] at h1; cases h1
    | succ j =>
      have := closed_spec T (n + 1) hc.2 j r (by simpa using h) (by omega) hs
      rw [show n + (j + 1) = n + 1 + j by omega]; exact this
theorem freeIn_spec {i : Nat} {ri : Row} {pure : Bool} {E S l : List Nat} : ∀ (T : List Row) (n : Nat), freeIn i ri pure E S l T n = true → ∀ j r, T[j]? = some r → n + j ≠ i → S.contains (n + j) = true → l.contains (n + j) = false →
    ((pure = true ∨ E.contains (n + j) = false) ∧ ri.apart r = true)
  | [], _, _, j, r, h, _, _, _ => by simp at h
  | x :: T, n, hc, j, r, h, hji, hs, hl => by
    simp only [freeIn, Bool.and_eq_true, Bool.or_eq_true, beq_iff_eq, Bool.not_eq_true'] at hc
    cases j with
    | zero =>
      simp at h; subst h
      simp only [Nat.add_zero] at hs hl hji ⊢
      rcases hc.1 with ((h1 | h1) | h1) | h1
      · exact absurd h1 hji
      · rw [hs] at h1; cases h1
      · rw [hl] at h1; cases h1
      · exact h1
    | succ j =>
      have := freeIn_spec T (n + 1) hc.2 j r (by simpa using h) (by omega) (by rw [show n + 1 + j = n + (j + 1) by omega]; exact hs) (by rw [show n + 1 + j = n + (j + 1) by omega]; exact hl)
      rw [show n + (j + 1) = n + 1 + j by omega]; exact this
theorem loneAt_spec {l : List Nat} {k : Nat} : ∀ (T : List Row) (n : Nat), loneAt l k T n = true → ∀ j r, T[j]? = some r → l.contains (n + j) = false → subset r.after l = true → n + j = k
  | [], _, _, j, r, h, _, _ => by simp at h
  | x :: T, n, hc, j, r, h, hl, hs => by
    simp only [loneAt, Bool.and_eq_true, Bool.or_eq_true, beq_iff_eq, Bool.not_eq_true'] at hc
    cases j with
    | zero =>
      simp at h; subst h
      rcases hc.1 with (h1 | h1) | h1
      · simpa using h1
      · simp only [Nat.add_zero] at hl; rw [hl] at h1; cases h1
      · rw [hs] at h1; cases h1
    | succ j =>
      have := loneAt_spec T (n + 1) hc.2 j r (by simpa using h) (by rw [show n + 1 + j = n + (j + 1) by omega]; exact hl) hs
      omega
theorem noneReady_spec {l : List Nat} : ∀ (T : List Row) (n : Nat), noneReady l T n = true → ∀ j r, T[j]? = some r → l.contains (n + j) = false → subset r.after l = true → False
  | [], _, _, j, r, h, _, _ => by simp at h
  | x :: T, n, hc, j, r, h, hl, hs => by
    simp only [noneReady, Bool.and_eq_true, Bool.or_eq_true, Bool.not_eq_true'] at hc
    cases j with
    | zero =>
      simp at h; subst h
      rcases hc.1 with h1 | h1
      · simp only [Nat.add_zero] at hl; rw [hl] at h1; cases h1
      · rw [hs] at h1; cases h1
    | succ j => exact noneReady_spec T (n + 1) hc.2 j r (by simpa using h) (by rw [show n + 1 + j = n + (j + 1) by omega]; exact hl) hs
theorem contains_cons_of {x : Nat} {j : Nat} {S : List Nat} (h : S.contains j = true) : (x :: S).contains j = true := by
  simp only [List.contains_cons, h, Bool.or_true]
theorem growth_mem {i : Nat} {b : Bool} {E : List Nat} : ∀ (T : List Row) (n : Nat) (S : List Nat) (j : Nat), S.contains j = true → (growth i b E T n S).contains j = true
  | [], _, _, _, h => h
  | r :: T, n, S, j, h => by
    unfold growth
    split
    · exact growth_mem T (n + 1) _ j (contains_cons_of h)
    · exact growth_mem T (n + 1) _ j h
def wpPlan (P : Program) (ops : Array Oper) (Q : Exit → Act → World → Prop) : List PStep → Act → World → Prop
  | [], a, w => ∀ w1, Chg [] w w1 → Q .normal a w1
  | .p i :: r, a, w => ∃ o, ops[i]? = some o ∧ ∃ v, Qt P ops o v anyW w a ∧ wpPlan P ops Q r (a.put o.dst v) w
  | .q i :: r, a, w => ∃ o, ops[i]? = some o ∧ ∃ v, Qt P ops o v (Chg []) w a ∧ wpPlan P ops Q r (a.put o.dst v) w
  | .r i R :: r, a, w => ∃ o, ops[i]? = some o ∧ ∃ v, Qt P ops o v R w a ∧ wpPlan P ops Q r (a.put o.dst v) w
  | .x k :: r, a, w => ∀ w1, Chg [] w w1 → wpOp P ops Q k (fun a' w' => Chg [] w1 w' ∧ wpPlan P ops Q r a' w') a w1
  | .s k R :: r, a, w => ∀ w1, Chg [] w w1 → wpOp P ops Q k (fun a' w' => R w1 w' ∧ wpPlan P ops Q r a' w') a w1
  | .e k :: r, a, w => ∀ w1, Chg [] w w1 → wpOp P ops Q k (fun a' w' => wpPlan P ops Q r a' w') a w1
theorem wpAnyR_plan {E M : List Nat} {R0 : World → World → Prop} (hR0 : Far R0) (hsel : Region.noSelect ops = true) (hQ : ∀ c a d v w, Q (.panic c) (a.put d v) w → Q (.panic c) a w) :
    ∀ (pl : List PStep) (fuel : Nat) (L : Array Bool) (l : List Nat) (a : Act) (w : World), pl.length ≤ fuel → Rel ops L l → (∀ i ∈ effects pl, E.contains i = true) → (∀ i ∈ marked pl, M.contains i = true) → AllR R0 pl → planOKR (tabOf md ops) E M pl l = true → wpPlan P ops Q pl a w →
      wpAnyR P md ops Q E M R0 fuel L a w := by
  have take : ∀ (R : World → World → Prop) (hR : Far R) (pure : Bool) (E' : List Nat) (hE' : ∀ j, (pure = true ∨ E'.contains j = false) → ∀ w w', eff E M R0 j w w' → R w w') (i : Nat) (r : List PStep) (fuel : Nat) (L : Array Bool) (l : List Nat) (a : Act) (w : World) (o : Oper) (v : Value), Rel ops L l → ops[i]? = some o → Qt P ops o v R w a →
      okTake (tabOf md ops) pure E' l i = true → wpAnyR P md ops Q E M R0 fuel (L.setIfInBounds i true) (a.put o.dst v) w → wpAnyR P md ops Q E M R0 (fuel + 1) L a w := by
    intro R hR pure E' hE' i r fuel L l a w o v hR' ho hy hok H
    simp only [okTake, tab_get ho, Bool.and_eq_true, Bool.not_eq_true'] at hok
    obtain ⟨⟨⟨⟨h0, h1⟩, h2⟩, h3⟩, h4⟩ := hok
    refine wpAnyR_first hR0 hR ho (Region.noSelect_spec hsel) (fun c a w => hQ c a _ _ w) (fun j => (growth i (!pure) E' (tabOf md ops) 0 l).contains j) ?_ fuel L a w ?_ ?_ ?_ hy H
    · intro j oj hoj hji hall
      have := closed_spec _ 0 h3 j _ (tab_get hoj) (by simpa using hji) (subset_row.2 hall)
      simpa using this
    · intro k hk
      rw [hR'.getDf] at hk
      exact growth_mem _ _ _ _ hk
    · intro j oj hoj hji hS hl
      rw [hR'.getDt (lt_of_get hoj)] at hl
      have := freeIn_spec _ 0 h4 j _ (tab_get hoj) (by simpa using hji) (by simpa using hS) (by simpa using hl)
      exact ⟨hE' j (by simpa using this.1), this.2⟩
    · exact (ready_iff hR').2 ⟨h0, o, ho, h1⟩
  have only : ∀ (k : Nat) (L : Array Bool) (l : List Nat), Rel ops L l → readyAt (tabOf md ops) l k = true → loneAt l k (tabOf md ops) 0 = true → (∃ o, ops[k]? = some o) ∧ k ∈ Region.ready md ops L ∧ ∀ j ∈ Region.ready md ops L, j = k := by
    intro k L l hR h1 h2
    have hrk : ∃ o, ops[k]? = some o ∧ l.contains k = false ∧ subset (rowOf md ops o).after l = true := by
      unfold readyAt at h1
      cases ht : (tabOf md ops)[k]? with
      | none => rw [ht] at h1; cases h1
      | some rr =>
        rw [ht] at h1
        obtain ⟨o, ho, rfl⟩ := tab_get' ht
        simp only [Bool.and_eq_true, Bool.not_eq_true'] at h1
        exact ⟨o, ho, h1.1, h1.2⟩
    obtain ⟨o, ho, hk0, hk1⟩ := hrk
    refine ⟨⟨o, ho⟩, (ready_iff hR).2 ⟨hk0, o, ho, hk1⟩, fun j hj => ?_⟩
    obtain ⟨hj0, oj, hoj, hjs⟩ := (ready_iff hR).1 hj
    have := loneAt_spec _ 0 h2 j _ (tab_get hoj) (by simpa using hj0) hjs
    omega
  intro pl
  induction pl with
  | nil =>
    intro fuel L l a w _ hR _ _ _ hok h
    have hr : Region.ready md ops L = [] := by
      apply List.eq_nil_iff_forall_not_mem.2
      intro j hj
      obtain ⟨h0, o, ho, hs⟩ := (ready_iff hR).1 hj
      exact noneReady_spec _ 0 hok j _ (tab_get ho) (by simpa using h0) hs
    cases fuel with
    | zero => exact fun w1 h1 => ⟨hr, h w1 h1⟩
    | succ fuel => exact fun w1 h1 => ⟨fun _ => h w1 h1, by rw [hr]; simp⟩
  | cons s r ih =>
    intro fuel L l a w hf hR hE hM hA hok h
    obtain ⟨fuel, rfl⟩ : ∃ m, fuel = m + 1 := ⟨fuel - 1, by simp at hf; omega⟩
    simp only [List.length_cons] at hf
    cases s with
    | p i =>
      obtain ⟨o, ho, v, hy, hn⟩ := h
      simp only [planOKR, Bool.and_eq_true] at hok
      exact take anyW .any true E (fun _ _ _ _ _ => trivial) i r fuel L l a w o v hR ho hy hok.1 (ih fuel _ (i :: l) _ w (by omega) (hR.cons (lt_of_get ho)) hE hM hA hok.2 hn)
    | q i =>
      obtain ⟨o, ho, v, hy, hn⟩ := h
      simp only [planOKR, Bool.and_eq_true] at hok
      refine take (Chg []) .grown false (E ++ M) (fun j hj w w' he => ?_) i r fuel L l a w o v hR ho hy hok.1 (ih fuel _ (i :: l) _ w (by omega) (hR.cons (lt_of_get ho)) hE hM hA hok.2 hn)
      rcases hj with hj | hj
      · cases hj
      · rw [List.contains_eq_mem, decide_eq_false_iff_not, List.mem_append, not_or] at hj
        exact he.2 (by simpa using hj.1) (by simpa using hj.2)
    | r i R =>
      obtain ⟨o, ho, v, hy, hn⟩ := h
      obtain ⟨rfl, hA⟩ := hA
      simp only [planOKR, Bool.and_eq_true] at hok
      refine take R hR0 false E (fun j hj w w' he => ?_) i r fuel L l a w o v hR ho hy hok.1 (ih fuel _ (i :: l) _ w (by omega) (hR.cons (lt_of_get ho)) hE hM hA hok.2 hn)
      rcases hj with hj | hj
      · cases hj
      · exact he.1 hj
    | x k =>
      simp only [planOKR, Bool.and_eq_true] at hok
      obtain ⟨⟨o, ho⟩, hmem, hall⟩ := only k L l hR hok.1.1 hok.1.2
      intro w1 hw1
      refine ⟨fun h0 => (by rw [h0] at hmem; cases hmem), fun j hj => ?_⟩
      obtain rfl := hall j hj
      exact wpOp_mono (fun a' w' h' => ⟨.grown hR0 h'.1, ih fuel _ (j :: l) a' w' (by omega) (hR.cons (lt_of_get ho)) hE hM hA hok.2 h'.2⟩) (h w1 hw1)
    | s k R =>
      obtain ⟨rfl, hA⟩ := hA
      simp only [planOKR, Bool.and_eq_true] at hok
      obtain ⟨⟨o, ho⟩, hmem, hall⟩ := only k L l hR hok.1.1 hok.1.2
      intro w1 hw1
      refine ⟨fun h0 => (by rw [h0] at hmem; cases hmem), fun j hj => ?_⟩
      obtain rfl := hall j hj
      refine wpOp_mono (fun a' w' h' => ⟨⟨fun _ => h'.1, fun _ hc => ?_⟩, ih fuel _ (j :: l) a' w' (by omega) (hR.cons (lt_of_get ho)) hE (fun i hi => hM i (by simp [marked, hi])) hA hok.2 h'.2⟩) (h w1 hw1)
      have := hM j (by simp [marked])
      rw [this] at hc; cases hc
    | e k =>
      simp only [planOKR, Bool.and_eq_true] at hok
      obtain ⟨⟨o, ho⟩, hmem, hall⟩ := only k L l hR hok.1.1 hok.1.2
      intro w1 hw1
      refine ⟨fun h0 => (by rw [h0] at hmem; cases hmem), fun j hj => ?_⟩
      obtain rfl := hall j hj
      have hEj := hE j (by simp [effects])
      exact wpOp_mono (fun a' w' h' => ⟨⟨fun hc => (by rw [hEj] at hc; cases hc), fun hc => (by rw [hEj] at hc; cases hc)⟩, ih fuel _ (j :: l) a' w' (by omega) (hR.cons (lt_of_get ho)) (fun i hi => hE i (by simp [effects, hi])) hM hA hok.2 h'⟩) (h w1 hw1)
theorem wp_region_planR {id : Nat} {l : List Oper} {a : Act} {w : World} (R0 : World → World → Prop) (hR0 : Far R0) (pl : List PStep) (hA : AllR R0 pl) (hm : P.follows .mixedOrders = true) (hsel : Region.noSelect l.toArray = true) (hlen : (pl.length ≤ l.toArray.size : Bool) = true)
    (hok : planOKR (tabOf .any l.toArray) (effects pl) (marked pl) pl [] = true) (hQ : ∀ c a d v w, Q (.panic c) (a.put d v) w → Q (.panic c) a w) (h : wpPlan P l.toArray Q pl a w) : (Code.region id l.toArray true).wp P Q a w :=
  wp_region_any hm (wpAny_of_R _ _ _ _ (wpAnyR.grow (wpAnyR_plan (E := effects pl) (M := marked pl) hR0 hsel hQ pl _ _ [] _ _ (by simpa using hlen) Rel.start (fun i hi => by simpa using hi) (fun i hi => by simpa using hi) hA hok h) (Chg.drew (.refl _ _))))
theorem wp_region_plan {id : Nat} {l : List Oper} {a : Act} {w : World} (pl : List PStep) (hm : P.follows .mixedOrders = true) (hsel : Region.noSelect l.toArray = true) (hlen : (pl.length ≤ l.toArray.size : Bool) = true)
    (hok : planOK (tabOf .any l.toArray) (effects pl) pl [] = true) (hQ : ∀ c a d v w, Q (.panic c) (a.put d v) w → Q (.panic c) a w) (h : wpPlan P l.toArray Q pl a w) : (Code.region id l.toArray true).wp P Q a w :=
  have hp := planOK_R pl [] hok
  wp_region_planR (Chg []) .grown pl hp.2.2 hm hsel hlen (by rw [hp.2.1]; exact hp.1) hQ h
def PStep.idx : PStep → Nat
  | .p i | .q i | .r i _ | .x i | .s i _ | .e i => i
def FarR : List PStep → Prop
  | [] => True
  | .r _ R :: r => Far R ∧ FarR r
  | _ :: r => FarR r
theorem wpOps_of_plan : ∀ (pl : List PStep) (a : Act) (w w1 : World), FarR pl → Chg [] w w1 → wpPlan P ops Q pl a w → wpOps P ops Q (pl.map PStep.idx) a w1
  | [], _, _, w1, _, hw, h => h w1 hw
  | .p i :: r, a, w, w1, hF, hw, ⟨o, ho, v, hy, hn⟩ => by
    rw [List.map_cons, wpOps_cons]
    exact (hy.grow .any (Far.any.of _ _ hw)).wpOp .any ho fun w2 h2 => wpOps_of_plan r _ w w2 hF (hw.trans h2) hn
  | .q i :: r, a, w, w1, hF, hw, ⟨o, ho, v, hy, hn⟩ => by
    rw [List.map_cons, wpOps_cons]
    exact (hy.grow .grown hw).wpOp .grown ho fun w2 h2 => wpOps_of_plan r _ w w2 hF (hw.trans h2) hn
  | .r i R :: r, a, w, w1, hF, hw, ⟨o, ho, v, hy, hn⟩ => by
    rw [List.map_cons, wpOps_cons]
    exact (hy.grow hF.1 (hF.1.of _ _ hw)).wpOp hF.1 ho fun w2 h2 => wpOps_of_plan r _ w w2 hF.2 (hw.trans h2) hn
  | .x i :: r, a, w, w1, hF, hw, h => by
    rw [List.map_cons, wpOps_cons]
    exact wpOp_mono (fun a' w' h' => wpOps_of_plan r a' w' w' hF (.refl _ _) h'.2) (h w1 hw)
  | .s i R :: r, a, w, w1, hF, hw, h => by
    rw [List.map_cons, wpOps_cons]
    exact wpOp_mono (fun a' w' h' => wpOps_of_plan r a' w' w' hF (.refl _ _) h'.2) (h w1 hw)
  | .e i :: r, a, w, w1, hF, hw, h => by
    rw [List.map_cons, wpOps_cons]
    exact wpOp_mono (fun a' w' h' => wpOps_of_plan r a' w' w' hF (.refl _ _) h') (h w1 hw)
def noR : List PStep → Bool
  | [] => true
  | .r _ _ :: _ => false
  | _ :: r => noR r
theorem FarR_of_no : ∀ pl, noR pl = true → FarR pl
  | [], _ => trivial
  | .r _ _ :: r, h => by simp [noR] at h
  | .s _ _ :: r, h => FarR_of_no r h
  | .p _ :: r, h => FarR_of_no r h
  | .q _ :: r, h => FarR_of_no r h
  | .x _ :: r, h => FarR_of_no r h
  | .e _ :: r, h => FarR_of_no r h
theorem wp_region_text {id : Nat} {l : List Oper} {a : Act} {w : World} (pl : List PStep) (hpl : pl.map PStep.idx = List.range l.toArray.size) (h : wpPlan P l.toArray Q pl a w) (hF : noR pl = true := by rfl) : (Code.region id l.toArray false).wp P Q a w :=
  wp_region (by rw [← hpl]; exact wpOps_of_plan pl a w w (FarR_of_no pl hF) (.refl _ _) h)
end
end Go.Proofs.YtdkjdioccpoacaaDoor
set_option linter.unusedSimpArgs false
set_option linter.unusedVariables false
namespace Go.Proofs.YtdkjdioccpoacaaDoor
open Go
def szc (P : Program) (t : TypeId) : Option Nat := (P.info? t).map (·.size)
def PRun (P : Program) (o : Oper) (a : Act) (v : Value) : Prop := ∀ w, (execOp a.eval o).run P w = .ok (.value v) w
def LRun (P : Program) (o : Oper) (a : Act) (w : World) (v : Value) : Prop := (execOp a.eval o).run P w = .ok (.value v) w
theorem PRun.l {P : Program} {o : Oper} {a : Act} {v : Value} (h : PRun P o a v) (w : World) : LRun P o a w v := h w
section
variable {P : Program} {a : Act} {d : Option Tmp} {ty : TypeId} {pos : String} {af : Array Edge} {g : Option (Nat × Bool)} {x y : Operand} {t : TypeId}
theorem run_ok_value {s : Sem Value} {w w' : World} {v : Value} (h : s.run P w = .ok v w') : (do pure (.value (← s)) : Sem Next).run P w = .ok (.value v) w' := by
  rw [Sem.run_bind, h]; rfl
theorem pr_move : PRun P ⟨d, .move x, ty, pos, af, g⟩ a (a.eval x) := fun _ => rfl
theorem pr_assign : PRun P ⟨d, .assign x, ty, pos, af, g⟩ a (a.eval x) := fun _ => rfl
theorem pr_bin {op : BinOp} {vx vy v : Value} {t' : TypeId} (hx : a.eval x = vx) (hy : a.eval y = vy) (h : Bin P op t x y vx vy v) : PRun P ⟨d, .binOp op t x y t', ty, pos, af, g⟩ a v := fun w => by
  subst hx; subst hy; exact run_ok_value (h w)
theorem pr_conv {s : TypeId} {vx v : Value} (hx : a.eval x = vx) (h : Cnv P s t vx v) : PRun P ⟨d, .convert s t x, ty, pos, af, g⟩ a v := fun w => by
  subst hx; exact run_ok_value (h w)
theorem pr_not {b : Bool} (hx : a.eval x = .bool b) : PRun P ⟨d, .unOp .not t x, ty, pos, af, g⟩ a (.bool !b) := fun w => by
  refine run_ok_value (w := w) ?_
  rw [hx]; rfl
theorem pr_neg64 {b : UInt64} (hx : a.eval x = V64 b) : PRun P ⟨d, .unOp .neg t x, ty, pos, af, g⟩ a (V64 (-b)) := fun w => by
  refine run_ok_value (w := w) ?_
  rw [hx]
  have h := bin_sub_u64 (P := P) (t := t) (x := x) (y := x) 0 b w
  rw [Sem.run_bind, run_eqGuard_int] at h
  rw [show -b = 0 - b by simp]
  exact h
theorem pr_extract {vs : Array Value} {i : Nat} {v : Value} (hx : a.eval x = .tuple vs) (hv : vs[i]? = some v) : PRun P ⟨d, .extract x i, ty, pos, af, g⟩ a v := fun w => by
  refine run_ok_value (w := w) ?_
  simp only [hx, Instr.extract, hv]; rfl
theorem pr_pick {c : Operand} {b : Bool} (hc : a.eval c = .bool b) : PRun P ⟨d, .pick c x y, ty, pos, af, g⟩ a (if b then a.eval x else a.eval y) := fun w => by
  simp only [execOp, hc, asBool, Sem.run_bind, Sem.run_pure, Result.andThen_ok]
theorem pr_move_v {v : Value} (hx : a.eval x = v) : PRun P ⟨d, .move x, ty, pos, af, g⟩ a v := hx ▸ pr_move
theorem pr_pick_t {c : Operand} (hc : a.eval c = .bool true) : PRun P ⟨d, .pick c x y, ty, pos, af, g⟩ a (a.eval x) := pr_pick (b := true) hc
theorem pr_pick_f {c : Operand} (hc : a.eval c = .bool false) : PRun P ⟨d, .pick c x y, ty, pos, af, g⟩ a (a.eval y) := pr_pick (b := false) hc
theorem pr_nilCheck {ad : Addr} (hx : a.eval x = .pointer (some ad)) : PRun P ⟨d, .nilCheck x, ty, pos, af, g⟩ a (.pointer (some ad)) := fun w => by
  simp only [execOp, hx]; rfl
theorem pr_len_sl {e : TypeId} {ad : Option Addr} {n c : Nat} (hx : a.eval x = .slice ad n c) (hu : P.underlying t = some (.slice e)) : PRun P ⟨d, .call ⟨.builtin .len, #[x], #[t]⟩, ty, pos, af, g⟩ a (I64 (n : Nat)) := fun w => by
  simp [execOp, resolve, invoke, builtin, Builtin.len_, hx, run_underlying hu, goInt]
theorem pr_len_str {s : ByteArray} (hx : a.eval x = .string s) (hu : P.underlying t = some .string) : PRun P ⟨d, .call ⟨.builtin .len, #[x], #[t]⟩, ty, pos, af, g⟩ a (I64 (s.size : Nat)) := fun w => by
  simp [execOp, resolve, invoke, builtin, Builtin.len_, hx, run_underlying hu, goInt]
theorem pr_min {k k' : IntKind} {m n : Int} {ts : Array TypeId} (hx : a.eval x = .int k m) (hy : a.eval y = .int k' n) : PRun P ⟨d, .call ⟨.builtin .min, #[x, y], ts⟩, ty, pos, af, g⟩ a (.int k (if n < m then n else m)) := fun w => by
  simp [execOp, resolve, invoke, builtin, Builtin.min_, Builtin.min2, hx, hy]
theorem pr_min_n {m n : Nat} {ts : Array TypeId} (hx : a.eval x = I64 m) (hy : a.eval y = I64 n) : PRun P ⟨d, .call ⟨.builtin .min, #[x, y], ts⟩, ty, pos, af, g⟩ a (I64 (min m n : Nat)) := fun w => by
  rw [pr_min hx hy w]
  have : (if (n : Int) < (m : Int) then (n : Int) else (m : Int)) = ((min m n : Nat) : Int) := by split <;> omega
  rw [this]
theorem addr_add (b o n : Nat) : (⟨b, o, none⟩ : Addr).add n = ⟨b, o + n, none⟩ := by unfold Addr.add; split <;> simp_all
theorem run_sizeOf {n : Nat} (h : szc P t = some n) (w : World) : (sizeOf t).run P w = .ok n w := by
  unfold szc at h
  obtain ⟨i, hi, rfl⟩ := Option.map_eq_some_iff.1 h
  simp [sizeOf, typeInfo, hi]
theorem pr_fieldAddr {fs : List Field} {f : Field} {i b o n : Nat} (off : Nat) (hx : a.eval x = PT b o) (hu : P.underlying t = some (.struct fs.toArray)) (hf : fs[i]? = some f) (ho : f.offset = off) (hz : szc P f.type = some (n + 1)) :
    PRun P ⟨d, .fieldAddr t x i, ty, pos, af, g⟩ a (PT b (o + off)) := fun w => by
  refine run_ok_value (w := w) ?_
  simp [hx, Instr.fieldAt, run_underlying hu, hf, Instr.sureAddr, fieldPlace, run_sizeOf hz, addr_add, ho]
theorem pr_idxA {k : IntKind} {e : TypeId} {n s b o i : Nat} (hx : a.eval x = PT b o) (hy : a.eval y = .int k (i : Int)) (hu : P.underlying t = some (.array n e)) (hs : szc P e = some s) (hi : i < n) :
    PRun P ⟨d, .indexAddr t x y, ty, pos, af, g⟩ a (PT b (o + i * s)) := fun w => by
  refine run_ok_value (w := w) ?_
  have h1 : (0 : Int) ≤ (i : Int) ∧ (i : Int) < (n : Int) := by omega
  simp [hx, hy, Instr.indexAt, asIntOf, run_underlying hu, Instr.sureAddr, run_sizeOf hs, addr_add]
  omega
theorem pr_idxA1 {k : IntKind} {e : TypeId} {n b o i : Nat} (hx : a.eval x = PT b o) (hy : a.eval y = .int k (i : Int)) (hu : P.underlying t = some (.array n e)) (hs : szc P e = some 1) (hi : i < n) :
    PRun P ⟨d, .indexAddr t x y, ty, pos, af, g⟩ a (PT b (o + i)) := by
  have := pr_idxA (d := d) (ty := ty) (pos := pos) (af := af) (g := g) hx hy hu hs hi
  simpa using this
theorem pr_idxS {k : IntKind} {e : TypeId} {n c s b o i : Nat} (hx : a.eval x = .slice (some ⟨b, o, none⟩) n c) (hy : a.eval y = .int k (i : Int)) (hu : P.underlying t = some (.slice e)) (hs : szc P e = some s) (hi : i < n) :
    PRun P ⟨d, .indexAddr t x y, ty, pos, af, g⟩ a (PT b (o + i * s)) := fun w => by
  refine run_ok_value (w := w) ?_
  have h1 : (0 : Int) ≤ (i : Int) ∧ (i : Int) < (n : Int) := by omega
  simp [hx, hy, Instr.indexAt, asIntOf, run_underlying hu, run_sizeOf hs, addr_add]
  omega
theorem pr_idxS1 {k : IntKind} {e : TypeId} {n c b o i : Nat} (hx : a.eval x = .slice (some ⟨b, o, none⟩) n c) (hy : a.eval y = .int k (i : Int)) (hu : P.underlying t = some (.slice e)) (hs : szc P e = some 1) (hi : i < n) :
    PRun P ⟨d, .indexAddr t x y, ty, pos, af, g⟩ a (PT b (o + i)) := by
  have := pr_idxS (d := d) (ty := ty) (pos := pos) (af := af) (g := g) hx hy hu hs hi
  simpa using this
theorem pr_index_arr {k : IntKind} {e : TypeId} {n i : Nat} {cs : Array Value} {v : Value} (hx : a.eval x = .agg cs) (hy : a.eval y = .int k (i : Int)) (hu : P.underlying t = some (.array n e)) (hs : szc P e = some 1)
    (hz : ∀ w, (isAgg e).run P w = .ok false w) (hi : i < n) (hv : cs[i]? = some v) : PRun P ⟨d, .index t x y, ty, pos, af, g⟩ a v := fun w => by
  refine run_ok_value (w := w) ?_
  have h1 : (0 : Int) ≤ (i : Int) ∧ (i : Int) < (n : Int) := by omega
  simp [hx, hy, Instr.index, asIntOf, run_underlying hu, run_sizeOf hs, part, hz, hv]
  omega
theorem run_bound {k : IntKind} {i y : Nat} (h : i ≤ y) (c : BoundsCode) (w : World) : (Instr.sliceBound (.int k (i : Int)) y c).run P w = .ok i w := by
  have h1 : (0 : Int) ≤ (i : Int) ∧ (i : Int) ≤ (y : Int) := by omega
  simp [Instr.sliceBound, asIntOf]
  omega
def cutA (ad : Option Addr) (l m s : Nat) : Option Addr := if m = l then ad else ad.map (·.add (l * s))
theorem pr_slice_lh {k k' : IntKind} {e : TypeId} {ad : Option Addr} {n c s l h : Nat} {xl xh : Operand} (hx : a.eval x = .slice ad n c) (hl : a.eval xl = .int k (l : Int)) (hh : a.eval xh = .int k' (h : Int))
    (hu : P.underlying t = some (.slice e)) (hs : szc P e = some s) (h1 : l ≤ h) (h2 : h ≤ c) : PRun P ⟨d, .slice t x (some xl) (some xh) none, ty, pos, af, g⟩ a (.slice (cutA ad l c s) (h - l) (c - l)) := fun w => by
  refine run_ok_value (w := w) ?_
  simp [hx, hl, hh, Instr.sliceAt, Instr.slice, run_underlying hu, Instr.sliceBounds, run_bound h1, run_bound h2, run_sizeOf hs, cutA]
theorem pr_slice_h {k' : IntKind} {e : TypeId} {ad : Option Addr} {n c s h : Nat} {xh : Operand} (hx : a.eval x = .slice ad n c) (hh : a.eval xh = .int k' (h : Int))
    (hu : P.underlying t = some (.slice e)) (hs : szc P e = some s) (h2 : h ≤ c) : PRun P ⟨d, .slice t x none (some xh) none, ty, pos, af, g⟩ a (.slice ad h c) := fun w => by
  refine run_ok_value (w := w) ?_
  have e0 : (if c = 0 then ad else ad.map fun a => a.add 0) = ad := by
    split
    · rfl
    · cases ad <;> simp [Addr.add]
  simp [hx, hh, Instr.sliceAt, Instr.slice, run_underlying hu, Instr.sliceBounds, run_bound h2, run_sizeOf hs, e0]
theorem pr_slice_l {k : IntKind} {e : TypeId} {ad : Option Addr} {n c s l : Nat} {xl : Operand} (hx : a.eval x = .slice ad n c) (hl : a.eval xl = .int k (l : Int))
    (hu : P.underlying t = some (.slice e)) (hs : szc P e = some s) (h1 : l ≤ n) : PRun P ⟨d, .slice t x (some xl) none none, ty, pos, af, g⟩ a (.slice (cutA ad l c s) (n - l) (c - l)) := fun w => by
  refine run_ok_value (w := w) ?_
  simp [hx, hl, Instr.sliceAt, Instr.slice, run_underlying hu, Instr.sliceBounds, run_bound h1, run_sizeOf hs, cutA]
theorem pr_slice_str_h {k' : IntKind} {st : ByteArray} {h : Nat} {xh : Operand} (hx : a.eval x = .string st) (hh : a.eval xh = .int k' (h : Int))
    (hu : P.underlying t = some .string) (h2 : h ≤ st.size) : PRun P ⟨d, .slice t x none (some xh) none, ty, pos, af, g⟩ a (.string (st.extract 0 h)) := fun w => by
  refine run_ok_value (w := w) ?_
  simp [hx, hh, Instr.sliceAt, Instr.slice, run_underlying hu, Instr.sliceBounds, run_bound h2]
theorem pr_slice_arr_lh {k k' : IntKind} {e : TypeId} {n s b o l h : Nat} {xl xh : Operand} (hx : a.eval x = PT b o) (hl : a.eval xl = .int k (l : Int)) (hh : a.eval xh = .int k' (h : Int))
    (hu : P.underlying t = some (.array n e)) (hs : szc P e = some s) (h1 : l ≤ h) (h2 : h ≤ n) : PRun P ⟨d, .slice t x (some xl) (some xh) none, ty, pos, af, g⟩ a (.slice (cutA (some ⟨b, o, none⟩) l n s) (h - l) (n - l)) := fun w => by
  refine run_ok_value (w := w) ?_
  simp only [hx, hl, hh, Option.map_some, Option.map_none, Instr.sliceAt, run_underlying hu, Sem.run_bind, Result.andThen_ok, Instr.sureAddr, Instr.sliceBounds, run_bound h1, run_bound h2, run_sizeOf hs, cutA, Sem.run_pure]
  split <;> rfl
theorem pr_slice_arr_all {e : TypeId} {n s b o : Nat} (hx : a.eval x = PT b o) (hu : P.underlying t = some (.array n e)) (hs : szc P e = some s) : PRun P ⟨d, .slice t x none none none, ty, pos, af, g⟩ a (.slice (some ⟨b, o, none⟩) n n) := fun w => by
  refine run_ok_value (w := w) ?_
  simp [hx, Instr.sliceAt, run_underlying hu, Instr.sureAddr, Instr.sliceBounds, run_sizeOf hs, Addr.add]
theorem pr_slice_arr_h {k' : IntKind} {e : TypeId} {n s b o h : Nat} {xh : Operand} (hx : a.eval x = PT b o) (hh : a.eval xh = .int k' (h : Int))
    (hu : P.underlying t = some (.array n e)) (hs : szc P e = some s) (h2 : h ≤ n) : PRun P ⟨d, .slice t x none (some xh) none, ty, pos, af, g⟩ a (.slice (some ⟨b, o, none⟩) h n) := fun w => by
  refine run_ok_value (w := w) ?_
  simp [hx, hh, Instr.sliceAt, run_underlying hu, Instr.sureAddr, Instr.sliceBounds, run_bound h2, run_sizeOf hs, Addr.add]
theorem pr_slice_arr_l {k : IntKind} {e : TypeId} {n s b o l : Nat} {xl : Operand} (hx : a.eval x = PT b o) (hl : a.eval xl = .int k (l : Int))
    (hu : P.underlying t = some (.array n e)) (hs : szc P e = some s) (h1 : l ≤ n) : PRun P ⟨d, .slice t x (some xl) none none, ty, pos, af, g⟩ a (.slice (cutA (some ⟨b, o, none⟩) l n s) (n - l) (n - l)) := fun w => by
  refine run_ok_value (w := w) ?_
  simp only [hx, hl, Option.map_some, Option.map_none, Instr.sliceAt, run_underlying hu, Sem.run_bind, Result.andThen_ok, Instr.sureAddr, Instr.sliceBounds, run_bound h1, run_sizeOf hs, cutA, Sem.run_pure]
  split <;> rfl
theorem pr_s2ap {e : TypeId} {ad : Addr} {m n c : Nat} (hx : a.eval x = .slice (some ad) n c) (hu : P.underlying t = some (.array m e)) (h : m ≤ n) : PRun P ⟨d, .sliceToArrayPointer t x, ty, pos, af, g⟩ a (.pointer (some ad)) := fun w => by
  refine run_ok_value (w := w) ?_
  have h1 : ¬ n < m := by omega
  simp [hx, Instr.arrayAt, run_underlying hu, h1]
end
end Go.Proofs.YtdkjdioccpoacaaDoor
set_option linter.unusedSimpArgs false
set_option linter.unusedVariables false
namespace Go.Proofs.YtdkjdioccpoacaaDoor
open Go
theorem wrap_i64_in (n : Int) (h1 : -9223372036854775808 ≤ n) (h2 : n < 9223372036854775808) : IntKind.i64.wrap n = n := by
  simp only [IntKind.wrap, IntKind.bits, IntKind.signed]
  simp
  omega
section
variable {P : Program} {t ty : TypeId} {x y : Operand}
theorem bin_add_i {m n : Int} (h1 : -9223372036854775808 ≤ m + n) (h2 : m + n < 9223372036854775808) : Bin P .add t x y (I64 m) (I64 n) (I64 (m + n)) := bin_of_int fun w => by
  show Result.ok (Value.int .i64 (IntKind.i64.wrap (m + n))) w = _
  rw [wrap_i64_in _ h1 h2]
theorem bin_sub_i {m n : Int} (h1 : -9223372036854775808 ≤ m - n) (h2 : m - n < 9223372036854775808) : Bin P .sub t x y (I64 m) (I64 n) (I64 (m - n)) := bin_of_int fun w => by
  show Result.ok (Value.int .i64 (IntKind.i64.wrap (m - n))) w = _
  rw [wrap_i64_in _ h1 h2]
theorem bin_mul_i {m n : Int} (h1 : -9223372036854775808 ≤ m * n) (h2 : m * n < 9223372036854775808) : Bin P .mul t x y (I64 m) (I64 n) (I64 (m * n)) := bin_of_int fun w => by
  show Result.ok (Value.int .i64 (IntKind.i64.wrap (m * n))) w = _
  rw [wrap_i64_in _ h1 h2]
theorem bin_add_n {m n : Nat} (h : m + n < 9223372036854775808) : Bin P .add t x y (I64 m) (I64 n) (I64 (m + n : Nat)) := by
  have := bin_add_i (P := P) (t := t) (x := x) (y := y) (m := m) (n := n) (by omega) (by omega)
  rwa [show ((m : Int) + n) = ((m + n : Nat) : Int) by omega] at this
theorem bin_sub_n {m n : Nat} (h : n ≤ m) (hm : m < 9223372036854775808) : Bin P .sub t x y (I64 m) (I64 n) (I64 (m - n : Nat)) := by
  have := bin_sub_i (P := P) (t := t) (x := x) (y := y) (m := m) (n := n) (by omega) (by omega)
  rwa [show ((m : Int) - n) = ((m - n : Nat) : Int) by omega] at this
theorem bin_mul_n {m n : Nat} (h : m * n < 9223372036854775808) : Bin P .mul t x y (I64 m) (I64 n) (I64 (m * n : Nat)) := by
  have e : (m : Int) * n = ((m * n : Nat) : Int) := by simp
  have := bin_mul_i (P := P) (t := t) (x := x) (y := y) (m := m) (n := n) (by rw [e]; omega) (by rw [e]; omega)
  rwa [e] at this
theorem bin_quo_n {m n : Nat} (hn : 0 < n) (hm : m < 9223372036854775808) : Bin P .quo t x y (I64 m) (I64 n) (I64 (m / n : Nat)) := bin_of_int fun w => by
  have h0 : ¬ ((n : Int) = 0) := by omega
  show (Op.intDiv .quo .i64 (m : Int) (n : Int)).run P w = _
  have e : (m : Int).tdiv n = ((m / n : Nat) : Int) := by simp
  have hd : m / n ≤ m := Nat.div_le_self _ _
  simp only [Op.intDiv, h0, if_false, e]
  show Result.ok (Value.int .i64 (IntKind.i64.wrap ((m / n : Nat) : Int))) w = _
  rw [wrap_i64_in _ (by have := Int.natCast_nonneg (m / n); omega) (by have : ((m / n : Nat) : Int) ≤ m := by exact_mod_cast hd
                                                                       omega)]
theorem bin_rem_n {m n : Nat} (hn : 0 < n) : Bin P .rem t x y (I64 m) (I64 n) (I64 (m % n : Nat)) := bin_of_int fun w => by
  have h0 : ¬ ((n : Int) = 0) := by omega
  show (Op.intDiv .rem .i64 (m : Int) (n : Int)).run P w = _
  have e : (m : Int).tmod n = ((m % n : Nat) : Int) := by rw [Int.tmod_eq_emod_of_nonneg (by omega)]; simp
  simp only [Op.intDiv, h0, if_false, e]
  rfl
theorem bin_shl_n {m c : Nat} {k : IntKind} (hc : c < 64) (h : m * 2 ^ c < 9223372036854775808) : Bin P .shl t x y (I64 m) (.int k (c : Int)) (I64 (m * 2 ^ c : Nat)) := bin_of_int fun w => by
  have h0 : ¬ ((c : Int) < 0) := by omega
  show (Op.shift .shl .i64 (m : Int) k (c : Int)).run P w = _
  have e : (m : Int) * 2 ^ (min c 64) = ((m * 2 ^ c : Nat) : Int) := by rw [Nat.min_eq_left (by omega)]; simp
  simp only [Op.shift, h0, if_false, Int.toNat_natCast, IntKind.bits, e, wrap_i64_in _ (show (-9223372036854775808 : Int) ≤ ((m * 2 ^ c : Nat) : Int) by omega) (by omega)]
  rfl
theorem bin_shr_n {m c : Nat} {k : IntKind} (hc : c < 64) : Bin P .shr t x y (I64 m) (.int k (c : Int)) (I64 (m / 2 ^ c : Nat)) := bin_of_int fun w => by
  have h0 : ¬ ((c : Int) < 0) := by omega
  show (Op.shift .shr .i64 (m : Int) k (c : Int)).run P w = _
  have e : Int.fdiv (m : Int) (2 ^ (min c 64)) = ((m / 2 ^ c : Nat) : Int) := by
    rw [Nat.min_eq_left (by omega), show ((2 : Int) ^ c) = ((2 ^ c : Nat) : Int) by simp]
    rw [Int.natCast_ediv, Int.fdiv_eq_ediv_of_nonneg _ (Int.natCast_nonneg _)]
  simp only [Op.shift, h0, if_false, Int.toNat_natCast, IntKind.bits, e]
  rfl
theorem bin_eql_i {m n : Int} : Bin P .eql t x y (I64 m) (I64 n) (BV (m == n)) := bin_of_int fun w => rfl
theorem bin_eql_n {m n : Nat} : Bin P .eql t x y (I64 m) (I64 n) (BV (m == n)) := by
  have h := bin_eql_i (P := P) (t := t) (x := x) (y := y) (m := m) (n := n)
  have e : ((m : Int) == (n : Int)) = (m == n) := by rw [Bool.eq_iff_iff]; simp; omega
  rwa [e] at h
theorem bin_neq_i {m n : Int} : Bin P .neq t x y (I64 m) (I64 n) (BV (m != n)) := bin_of_int fun w => rfl
theorem bin_neq_n {m n : Nat} : Bin P .neq t x y (I64 m) (I64 n) (BV (m != n)) := by
  have h := bin_neq_i (P := P) (t := t) (x := x) (y := y) (m := m) (n := n)
  have e : ((m : Int) != (n : Int)) = (m != n) := by rw [Bool.eq_iff_iff]; simp; omega
  rwa [e] at h
theorem bin_lss_i {m n : Int} : Bin P .lss t x y (I64 m) (I64 n) (BV (decide (m < n))) := bin_of_int fun w => rfl
theorem bin_lss_n {m n : Nat} : Bin P .lss t x y (I64 m) (I64 n) (BV (decide (m < n))) := by
  have h := bin_lss_i (P := P) (t := t) (x := x) (y := y) (m := m) (n := n)
  have e : (decide ((m : Int) < (n : Int))) = (decide (m < n)) := by rw [Bool.eq_iff_iff]; simp
  rwa [e] at h
theorem bin_leq_i {m n : Int} : Bin P .leq t x y (I64 m) (I64 n) (BV (decide (m ≤ n))) := bin_of_int fun w => rfl
theorem bin_leq_n {m n : Nat} : Bin P .leq t x y (I64 m) (I64 n) (BV (decide (m ≤ n))) := by
  have h := bin_leq_i (P := P) (t := t) (x := x) (y := y) (m := m) (n := n)
  have e : (decide ((m : Int) ≤ (n : Int))) = (decide (m ≤ n)) := by rw [Bool.eq_iff_iff]; simp
  rwa [e] at h
theorem bin_gtr_i {m n : Int} : Bin P .gtr t x y (I64 m) (I64 n) (BV (decide (m > n))) := bin_of_int fun w => rfl
theorem bin_gtr_n {m n : Nat} : Bin P .gtr t x y (I64 m) (I64 n) (BV (decide (m > n))) := by
  have h := bin_gtr_i (P := P) (t := t) (x := x) (y := y) (m := m) (n := n)
  have e : (decide ((m : Int) > (n : Int))) = (decide (m > n)) := by rw [Bool.eq_iff_iff]; simp
  rwa [e] at h
theorem bin_geq_i {m n : Int} : Bin P .geq t x y (I64 m) (I64 n) (BV (decide (m ≥ n))) := bin_of_int fun w => rfl
theorem bin_geq_n {m n : Nat} : Bin P .geq t x y (I64 m) (I64 n) (BV (decide (m ≥ n))) := by
  have h := bin_geq_i (P := P) (t := t) (x := x) (y := y) (m := m) (n := n)
  have e : (decide ((m : Int) ≥ (n : Int))) = (decide (m ≥ n)) := by rw [Bool.eq_iff_iff]; simp
  rwa [e] at h
theorem run_equalIn_bool (d : Nat) {a b : Bool} (hu : P.underlying t = some .bool) (w : World) : (Op.equalIn (d + 1) t (.bool a) (.bool b)).run P w = .ok (a == b) w := by
  simp [Op.equalIn, run_underlying hu]
theorem run_equalIn_pn (d : Nat) {e : TypeId} {p : Option Addr} (hu : P.underlying t = some (.pointer e)) (w : World) : (Op.equalIn (d + 1) t (.pointer p) (.pointer none)).run P w = .ok p.isNone w := by
  cases p <;> simp [Op.equalIn, run_underlying hu]
theorem run_binOp_eql {vx vy : Value} {b : Bool} (hb : binOp .eql t vx vy = do pure (.bool (← Op.equal t vx vy))) (h : ∀ d w, (Op.equalIn (d + 1) t vx vy).run P w = .ok b w) (w : World) : (binOp .eql t vx vy).run P w = .ok (.bool b) w := by
  rw [hb, Sem.run_bind]
  have := h 9999 w
  show (Sem.run P (Op.equalIn (9999 + 1) t vx vy) w).andThen _ = _
  rw [this]; rfl
theorem run_binOp_neq {vx vy : Value} {b : Bool} (hb : binOp .neq t vx vy = do pure (.bool !(← Op.equal t vx vy))) (h : ∀ d w, (Op.equalIn (d + 1) t vx vy).run P w = .ok b w) (w : World) : (binOp .neq t vx vy).run P w = .ok (.bool !b) w := by
  rw [hb, Sem.run_bind]
  have := h 9999 w
  show (Sem.run P (Op.equalIn (9999 + 1) t vx vy) w).andThen _ = _
  rw [this]; rfl
theorem bin_neq_b {a b : Bool} (hu : P.underlying t = some .bool) : Bin P .neq t x y (.bool a) (.bool b) (BV (!(a == b))) := bin_of_bool fun w => run_binOp_neq rfl (fun d w => run_equalIn_bool d hu w) w
theorem bin_eql_s {a b : ByteArray} : Bin P .eql t x y (.string a) (.string b) (BV (a.data.toList == b.data.toList)) := bin_of_string fun w => by
  rw [binOp_string_eql, ByteArray.toList_eq, ByteArray.toList_eq]; rfl
theorem bin_neq_s {a b : ByteArray} : Bin P .neq t x y (.string a) (.string b) (BV (!(a.data.toList == b.data.toList))) := bin_of_string fun w => by
  rw [binOp_string_neq, ByteArray.toList_eq, ByteArray.toList_eq]; rfl
theorem bin_eql_pn {e : TypeId} {p : Option Addr} (hu : P.underlying t = some (.pointer e)) : Bin P .eql t x y (.pointer p) (.pointer none) (BV p.isNone) := bin_of_pointer fun w => run_binOp_eql rfl (fun d w => run_equalIn_pn d hu w) w
theorem cnv_int {s : TypeId} {ds : TypeDesc} {k k0 : IntKind} {n : Int} (hs : P.underlying s = some ds) (hd : P.underlying t = some (.int k)) : Cnv P s t (.int k0 n) (.int k (k.wrap n)) := fun w => by
  simp only [convert, Sem.run_bind, run_underlying hs, run_underlying hd, Result.andThen_ok]
  cases ds <;> rfl
theorem cnv_u8_u32 {s : TypeId} {ds : TypeDesc} (a : UInt8) (hs : P.underlying s = some ds) (hd : P.underlying t = some (.int .u32)) : Cnv P s t (V8 a) (V32 a.toUInt32) := by
  have h := cnv_int (P := P) (k0 := .u8) (n := ((a.toNat : Nat) : Int)) hs hd
  rw [wrap_u32, Nat.mod_eq_of_lt (by have := lt_u8 a; omega), ← UInt8.toNat_toUInt32] at h
  exact h
theorem cnv_u8_u64 {s : TypeId} {ds : TypeDesc} (a : UInt8) (hs : P.underlying s = some ds) (hd : P.underlying t = some (.int .u64)) : Cnv P s t (V8 a) (V64 a.toUInt64) := by
  have h := cnv_int (P := P) (k0 := .u8) (n := ((a.toNat : Nat) : Int)) hs hd
  rw [wrap_u64, Nat.mod_eq_of_lt (by have := lt_u8 a; omega), ← UInt8.toNat_toUInt64] at h
  exact h
theorem cnv_n_u8 {s : TypeId} {ds : TypeDesc} {n : Nat} (hs : P.underlying s = some ds) (hd : P.underlying t = some (.int .u8)) : Cnv P s t (I64 n) (V8 (UInt8.ofNat n)) := by
  have h := cnv_int (P := P) (k0 := .i64) (n := (n : Int)) hs hd
  rw [wrap_u8] at h
  have e : (UInt8.ofNat n).toNat = n % 256 := UInt8.toNat_ofNat'
  rw [← e] at h
  exact h
theorem cnv_i_u8 {s : TypeId} {ds : TypeDesc} {n : Int} (hs : P.underlying s = some ds) (hd : P.underlying t = some (.int .u8)) : Cnv P s t (I64 n) (V8 (UInt8.ofNat (n % 256).toNat)) := by
  have h := cnv_int (P := P) (k0 := .i64) (n := n) hs hd
  have e : IntKind.u8.wrap n = (((UInt8.ofNat (n % 256).toNat).toNat : Nat) : Int) := by
    have e1 : (UInt8.ofNat (n % 256).toNat).toNat = (n % 256).toNat % 256 := UInt8.toNat_ofNat'
    rw [e1]
    simp only [IntKind.wrap, IntKind.bits, IntKind.signed]
    simp
    omega
  rw [e] at h
  exact h
theorem cnv_u8_n {s : TypeId} {ds : TypeDesc} (a : UInt8) (hs : P.underlying s = some ds) (hd : P.underlying t = some (.int .i64)) : Cnv P s t (V8 a) (I64 (a.toNat : Nat)) := by
  have h := cnv_int (P := P) (k0 := .u8) (n := ((a.toNat : Nat) : Int)) hs hd
  have := lt_u8 a
  rwa [wrap_i64_in _ (by omega) (by omega)] at h
theorem cnv_u32_u8 {s : TypeId} {ds : TypeDesc} (a : UInt32) (hs : P.underlying s = some ds) (hd : P.underlying t = some (.int .u8)) : Cnv P s t (V32 a) (V8 a.toUInt8) := by
  have h := cnv_int (P := P) (k0 := .u32) (n := ((a.toNat : Nat) : Int)) hs hd
  rw [wrap_u8] at h
  have e : (a.toUInt8).toNat = a.toNat % 256 := UInt32.toNat_toUInt8 a
  rw [← e] at h
  exact h
theorem cnv_n_u32 {s : TypeId} {ds : TypeDesc} {n : Nat} (hs : P.underlying s = some ds) (hd : P.underlying t = some (.int .u32)) : Cnv P s t (I64 n) (V32 (UInt32.ofNat n)) := by
  have h := cnv_int (P := P) (k0 := .i64) (n := (n : Int)) hs hd
  rw [wrap_u32] at h
  have e : (UInt32.ofNat n).toNat = n % 4294967296 := UInt32.toNat_ofNat'
  rw [← e] at h
  exact h
theorem cnv_i_u32 {s : TypeId} {ds : TypeDesc} {n : Int} (hs : P.underlying s = some ds) (hd : P.underlying t = some (.int .u32)) : Cnv P s t (I64 n) (V32 (UInt32.ofNat (n % 4294967296).toNat)) := by
  have h := cnv_int (P := P) (k0 := .i64) (n := n) hs hd
  have e : IntKind.u32.wrap n = (((UInt32.ofNat (n % 4294967296).toNat).toNat : Nat) : Int) := by
    have e1 : (UInt32.ofNat (n % 4294967296).toNat).toNat = (n % 4294967296).toNat % 4294967296 := UInt32.toNat_ofNat'
    rw [e1]
    simp only [IntKind.wrap, IntKind.bits, IntKind.signed]
    simp
    omega
  rw [e] at h
  exact h
theorem cnv_u64_u8 {s : TypeId} {ds : TypeDesc} (a : UInt64) (hs : P.underlying s = some ds) (hd : P.underlying t = some (.int .u8)) : Cnv P s t (V64 a) (V8 a.toUInt8) := by
  have h := cnv_int (P := P) (k0 := .u64) (n := ((a.toNat : Nat) : Int)) hs hd
  rw [wrap_u8] at h
  have e : (a.toUInt8).toNat = a.toNat % 256 := UInt64.toNat_toUInt8 a
  rw [← e] at h
  exact h
theorem cnv_n_u64 {s : TypeId} {ds : TypeDesc} {n : Nat} (hs : P.underlying s = some ds) (hd : P.underlying t = some (.int .u64)) : Cnv P s t (I64 n) (V64 (UInt64.ofNat n)) := by
  have h := cnv_int (P := P) (k0 := .i64) (n := (n : Int)) hs hd
  rw [wrap_u64] at h
  have e : (UInt64.ofNat n).toNat = n % 18446744073709551616 := UInt64.toNat_ofNat'
  rw [← e] at h
  exact h
theorem cnv_i_u64 {s : TypeId} {ds : TypeDesc} {n : Int} (hs : P.underlying s = some ds) (hd : P.underlying t = some (.int .u64)) : Cnv P s t (I64 n) (V64 (UInt64.ofNat (n % 18446744073709551616).toNat)) := by
  have h := cnv_int (P := P) (k0 := .i64) (n := n) hs hd
  have e : IntKind.u64.wrap n = (((UInt64.ofNat (n % 18446744073709551616).toNat).toNat : Nat) : Int) := by
    have e1 : (UInt64.ofNat (n % 18446744073709551616).toNat).toNat = (n % 18446744073709551616).toNat % 18446744073709551616 := UInt64.toNat_ofNat'
    rw [e1]
    simp only [IntKind.wrap, IntKind.bits, IntKind.signed]
    simp
    omega
  rw [e] at h
  exact h
end
end Go.Proofs.YtdkjdioccpoacaaDoor
set_option linter.unusedSimpArgs false
set_option linter.unusedVariables false
namespace Go.Proofs.YtdkjdioccpoacaaDoor
open Go
@[irreducible] def Ret (P : Program) (f : FuncId) (args : Array Value) (w : World) (Post : Value → World → Prop) : Prop := Calls P f args w fun e w' => ∃ v, e = .returned v ∧ Post v w'
@[irreducible] def BP (P : Program) (fn : Func) (Post : Value → World → Prop) : Exit → Act → World → Prop := bodyPost P fn fun e w' => ∃ v, e = .returned v ∧ Post v w'
theorem Ret.calls {P : Program} {f : FuncId} {args : Array Value} {w : World} {Post : Value → World → Prop} (h : Ret P f args w Post) : Calls P f args w fun e w' => ∃ v, e = .returned v ∧ Post v w' := by unfold Ret at h; exact h
theorem Ret.mono {P : Program} {f : FuncId} {args : Array Value} {w : World} {Post Post' : Value → World → Prop} (h : Ret P f args w Post) (hp : ∀ v w', Post v w' → Post' v w') : Ret P f args w Post' := by
  unfold Ret at *
  exact h.mono fun e w' ⟨v, he, hv⟩ => ⟨v, he, hp v w' hv⟩
theorem Ret.enter {P : Program} {f : FuncId} {fn : Func} {c : Code} {args : Array Value} {w : World} {Post : Value → World → Prop} (hf : P.funcs[f]? = some fn) (hb : fn.body = some c)
    (h : c.wp P (BP P fn Post) ⟨args ++ Array.replicate (fn.ntmps - args.size) undef, []⟩ w) : Ret P f args w Post := by
  unfold Ret
  unfold BP at h
  exact calls_of_wp hf hb h
section
variable {P : Program} {fn : Func} {Post : Value → World → Prop} {tm : List Value} {w : World}
theorem BP.panic (c : List PanicEntry) (a : Act) (d : Option Tmp) (v : Value) (w : World) (h : BP P fn Post (.panic c) (a.put d v) w) : BP P fn Post (.panic c) a w := by
  unfold BP at *
  obtain ⟨_, v, hv, _⟩ := h; cases hv
theorem BP.of {a : Act} {v : Value} (hr : (results fn a.tmps).run P w = .ok v w) (hd : a.defers = []) (h : Post v w) : BP P fn Post .ret a w := by unfold BP; exact ⟨hd, v, hr, v, rfl, h⟩
theorem BP.normal {a : Act} (h : BP P fn Post .ret a w) : BP P fn Post .normal a w := by unfold BP at *; exact h
theorem BP.ret1 {t : Tmp} {v : Value} (hr : fn.results = #[.tmp t]) (hv : tm.getD t undef = v) (h : Post v w) : BP P fn Post .ret ⟨tm.toArray, []⟩ w :=
  .of (v := v) (by subst hv; simp [results, hr]) rfl h
theorem BP.ret0 {a : Act} (hr : fn.results = #[]) (hd : a.defers = []) (h : Post (.tuple #[]) w) : BP P fn Post .ret a w := .of (by simp [results, hr]) hd h
theorem BP.ret2 {t u : Tmp} {v v' : Value} (hr : fn.results = #[.tmp t, .tmp u]) (hv : tm.getD t undef = v) (hv' : tm.getD u undef = v') (h : Post (.tuple #[v, v']) w) : BP P fn Post .ret ⟨tm.toArray, []⟩ w :=
  .of (v := .tuple #[v, v']) (by subst hv; subst hv'; simp [results, hr]) rfl h
end
section
variable {P : Program} {a : Act} {d : Option Tmp} {ty : TypeId} {pos : String} {af : Array Edge} {g : Option (Nat × Bool)} {x y : Operand} {t T : TypeId} {w : World}
def isAggD : TypeDesc → Bool
  | .struct _ | .array _ _ => true
  | _ => false
theorem run_isAgg {D : TypeDesc} (hu : P.underlying t = some D) (w : World) : (isAgg t).run P w = .ok (isAggD D) w := by
  unfold isAgg
  rw [Sem.run_bind, run_underlying hu w]
  cases D <;> rfl
theorem lr_load1 {D : TypeDesc} {b o : Nat} {v : Value} (hx : a.eval x = PT b o) (hu : P.underlying t = some D) (hD : isAggD D = false) (hc : w.cell? ⟨b, o, none⟩ = some v) : LRun P ⟨d, .load t x, ty, pos, af, g⟩ a w v := by
  refine run_ok_value (w := w) ?_
  simp [hx, Instr.loadAt, Instr.sureAddr, loadVar, run_isAgg hu, hD, hc]
theorem run_loadN {D : TypeDesc} {b o n : Nat} {cs : Array Value} (hu : P.underlying t = some D) (hD : isAggD D = true) (hs : szc P t = some n) (hc : ∀ j, j < n → w.cell? ⟨b, o + j, none⟩ = cs[o + j]?) (hn : o + n ≤ cs.size) :
    (loadVar t ⟨b, o, none⟩).run P w = .ok (.agg (cs.extract o (o + n))) w := by
  have h := run_loadCells_list (P := P) w ⟨b, o, none⟩ (cs.extract o (o + n)).toList (fun j v hj => by
    rw [addr_add]
    have hj' : (cs.extract o (o + n))[j]? = some v := by rw [← Array.getElem?_toList]; exact hj
    rw [Array.getElem?_extract] at hj'
    split at hj'
    · rename_i hlt
      rw [hc j (by omega)]; exact hj'
    · cases hj')
  have hl : (cs.extract o (o + n)).toList.length = n := by simp; omega
  rw [hl] at h
  simp only [loadVar, Sem.run_bind, run_isAgg hu, hD, Result.andThen_ok, if_true, run_sizeOf hs, h, Array.toArray_toList]
  rfl
theorem lr_loadN {D : TypeDesc} {b o n : Nat} {cs : Array Value} (hx : a.eval x = PT b o) (hb : Blk w b T cs) (hu : P.underlying t = some D) (hD : isAggD D = true) (hs : szc P t = some n) (hn : o + n ≤ cs.size) :
    LRun P ⟨d, .load t x, ty, pos, af, g⟩ a w (.agg (cs.extract o (o + n))) := by
  refine run_ok_value (w := w) ?_
  simp only [hx, Instr.loadAt, Instr.sureAddr, Sem.run_bind, Sem.run_pure, Result.andThen_ok]
  exact run_loadN hu hD hs (fun j hj => by
    have hlt : o + j < cs.size := by omega
    rw [hb.cell (Array.getElem?_eq_getElem hlt), Array.getElem?_eq_getElem hlt]) hn
theorem lr_loadW {D : TypeDesc} {b n : Nat} {cs : Array Value} (hx : a.eval x = PT b 0) (hb : Blk w b T cs) (hu : P.underlying t = some D) (hD : isAggD D = true) (hs : szc P t = some n) (hn : cs.size = n) :
    LRun P ⟨d, .load t x, ty, pos, af, g⟩ a w (.agg cs) := by
  have := lr_loadN (d := d) (ty := ty) (pos := pos) (af := af) (g := g) hx hb hu hD hs (by omega)
  rwa [show cs.extract 0 (0 + n) = cs by rw [Nat.zero_add, ← hn]; simp] at this
end
def splice (cs : Array Value) (o : Nat) (vs : Array Value) : Array Value := (cs.toList.take o ++ vs.toList ++ cs.toList.drop (o + vs.size)).toArray
theorem splice_size {cs vs : Array Value} {o : Nat} (h : o + vs.size ≤ cs.size) : (splice cs o vs).size = cs.size := by simp [splice]; omega
theorem splice_all {cs vs : Array Value} (h : vs.size = cs.size) : splice cs 0 vs = vs := by
  unfold splice
  simp only [List.take_zero, List.nil_append, Nat.zero_add]
  rw [List.drop_eq_nil_of_le (by simp; omega)]; simp
theorem splice_get {cs vs : Array Value} {o i : Nat} (h : o + vs.size ≤ cs.size) : (splice cs o vs)[i]? = if o ≤ i ∧ i < o + vs.size then vs[i - o]? else cs[i]? := by
  unfold splice
  simp only [List.append_assoc, List.getElem?_toArray]
  rw [List.getElem?_append]
  simp only [List.length_take, Array.length_toList, Nat.min_eq_left (show o ≤ cs.size by omega)]
  by_cases h1 : i < o
  · rw [if_pos h1, if_neg (by omega), List.getElem?_take, if_pos h1]; simp
  · rw [if_neg h1, List.getElem?_append]
    simp only [Array.length_toList]
    by_cases h2 : i < o + vs.size
    · rw [if_pos (by omega), if_pos ⟨by omega, h2⟩]; simp
    · rw [if_neg (by omega), if_neg (by omega), List.getElem?_drop]
      simp only [Array.getElem?_toList]
      congr 1; omega
theorem run_storeCells_blk {P : Program} {b : Nat} {t : TypeId} : ∀ (vs : List Value) (i o : Nat) (w : World) (cs : Array Value), Blk w b t cs → o + i + vs.length ≤ cs.size → (∀ v ∈ vs, v.oneCell' = true) →
    ∃ w', (storeCells ⟨b, o, none⟩ vs i).run P w = .ok () w' ∧ Blk w' b t (splice cs (o + i) vs.toArray) ∧ (∀ k, k ≠ b → w'.heap[k]? = w.heap[k]?) ∧ w'.heap.size = w.heap.size ∧ w'.os = w.os ∧ w'.tape = w.tape ∧ w'.output = w.output
  | [], i, o, w, cs, hb, hl, _ => by
    refine ⟨w, rfl, ?_, fun _ _ => rfl, rfl, rfl, rfl, rfl⟩
    have : splice cs (o + i) [].toArray = cs := by unfold splice; simp
    rw [this]; exact hb
  | v :: rest, i, o, w, cs, hb, hl, h1 => by
    simp only [List.length_cons] at hl
    have hlt : o + i < cs.size := by omega
    have hst : (store ((⟨b, o, none⟩ : Addr).add i) v).run P w = .ok () (w.setCell ⟨b, o + i, none⟩ v) := by
      rw [addr_add, run_store P w _ v _ (h1 v (by simp)), hb.cell (Array.getElem?_eq_getElem hlt)]
      simp [hb.free hlt]
    obtain ⟨w', hr, hB, ho, hsz, e1, e2, e3⟩ := run_storeCells_blk (P := P) rest (i + 1) o (w.setCell ⟨b, o + i, none⟩ v) _ (hb.set (o + i) v) (by simp; omega) (fun x hx => h1 x (by simp [hx]))
    refine ⟨w', ?_, ?_, fun k hk => (ho k hk).trans (heap_set_other _ _ _ hk), hsz.trans (heap_set_size _ _ _), e1, e2, e3⟩
    · simp only [storeCells, Sem.run_bind, hst, Result.andThen_ok, hr]
    · have : splice (cs.setIfInBounds (o + i) v) (o + (i + 1)) rest.toArray = splice cs (o + i) (v :: rest).toArray := by
        apply Array.ext_getElem?
        intro j
        rw [splice_get (by simp; omega), splice_get (by simp; omega), Array.getElem?_setIfInBounds]
        simp only [List.size_toArray, List.length_cons]
        by_cases hj : o + i = j
        · subst hj; simp [hlt]; omega
        · by_cases hj2 : o + i ≤ j ∧ j < o + i + (rest.length + 1)
          · rw [if_pos (by omega), if_pos hj2]
            have : j - (o + i) = (j - (o + (i + 1))) + 1 := by omega
            rw [this]; simp
          · rw [if_neg (by omega), if_neg hj2, if_neg hj]
      rw [← this]; exact hB
section
variable {P : Program} {ops : List Oper} {Q : Exit → Act → World → Prop} {r : List PStep} {a : Act} {w : World} {i : Nat} {d : Option Tmp} {ty : TypeId} {pos : String} {af : Array Edge} {g : Option (Nat × Bool)} {x y : Operand} {t T : TypeId}
  {S : List Nat} {w0 : World} {L : List Own} {o : Oper} {v : Value}
def QRun (P : Program) (o : Oper) (a : Act) (w : World) (v : Value) : Prop := ∀ w', Chg [] w w' → o.quietAt P a (Chg [] w') w' v
theorem QRun.of_l (h : ∀ w', Chg [] w w' → LRun P o a w' v) : QRun P o a w v := fun w' hw => by
  unfold Oper.quietAt; rw [h w' hw]; exact ⟨rfl, rfl⟩
theorem PRun.q (h : PRun P o a v) (w : World) : QRun P o a w v := .of_l fun w' _ => h w'
theorem at_list {ops : List Oper} (h : ops[i]? = some o) : ops.toArray[i]? = some o := by simpa using h
theorem plan_nil (hH : Hp S w0 w L) (h : ∀ w', Hp S w0 w' L → Q .normal a w') : wpPlan P ops.toArray Q [] a w := fun w1 hw => h w1 (hH.call hw)
theorem plan_p (ho : ops[i]? = some o) (hg : Region.wanted o (yielded ops.toArray a.tmps) = true) (hrun : PRun P o a v) (h : wpPlan P ops.toArray Q r (a.put o.dst v) w) : wpPlan P ops.toArray Q (.p i :: r) a w :=
  ⟨o, at_list ho, v, .inl ⟨hg, fun w' _ => by unfold Oper.quietAt; rw [hrun w']; exact ⟨rfl, rfl⟩⟩, h⟩
theorem plan_q (ho : ops[i]? = some o) (hg : Region.wanted o (yielded ops.toArray a.tmps) = true) (hrun : QRun P o a w v) (h : wpPlan P ops.toArray Q r (a.put o.dst v) w) : wpPlan P ops.toArray Q (.q i :: r) a w :=
  ⟨o, at_list ho, v, .inl ⟨hg, hrun⟩, h⟩
theorem plan_ps (ho : ops[i]? = some o) (hg : Region.wanted o (yielded ops.toArray a.tmps) = false) (h : wpPlan P ops.toArray Q r (a.put o.dst undef) w) : wpPlan P ops.toArray Q (.p i :: r) a w :=
  ⟨o, at_list ho, undef, .inr ⟨hg, rfl⟩, h⟩
theorem plan_qs (ho : ops[i]? = some o) (hg : Region.wanted o (yielded ops.toArray a.tmps) = false) (h : wpPlan P ops.toArray Q r (a.put o.dst undef) w) : wpPlan P ops.toArray Q (.q i :: r) a w :=
  ⟨o, at_list ho, undef, .inr ⟨hg, rfl⟩, h⟩
theorem wpPlan.grow : ∀ (pl : List PStep) (a : Act) (w w1 : World), FarR pl → wpPlan P ops.toArray Q pl a w → Chg [] w w1 → wpPlan P ops.toArray Q pl a w1
  | [], _, _, _, _, h, hc => fun w2 h2 => h w2 (hc.trans h2)
  | .p i :: r, a, w, w1, hF, ⟨o, ho, v, hy, hn⟩, hc => ⟨o, ho, v, hy.grow .any (Far.any.of _ _ hc), wpPlan.grow r _ w w1 hF hn hc⟩
  | .q i :: r, a, w, w1, hF, ⟨o, ho, v, hy, hn⟩, hc => ⟨o, ho, v, hy.grow .grown hc, wpPlan.grow r _ w w1 hF hn hc⟩
  | .r i R :: r, a, w, w1, hF, ⟨o, ho, v, hy, hn⟩, hc => ⟨o, ho, v, hy.grow hF.1 (hF.1.of _ _ hc), wpPlan.grow r _ w w1 hF.2 hn hc⟩
  | .x i :: r, _, _, _, _, h, hc => fun w2 h2 => h w2 (hc.trans h2)
  | .s i R :: r, _, _, _, _, h, hc => fun w2 h2 => h w2 (hc.trans h2)
  | .e i :: r, _, _, _, _, h, hc => fun w2 h2 => h w2 (hc.trans h2)
theorem plan_ev (hH : Hp S w0 w L) (ho : ops[i]? = some o) (hg : Region.wanted o (yielded ops.toArray a.tmps) = true) (h : ∀ w1, Hp S w0 w1 L → ∃ v w', (execOp a.eval o).run P w1 = .ok (.value v) w' ∧ wpPlan P ops.toArray Q r (a.put o.dst v) w') : wpPlan P ops.toArray Q (.e i :: r) a w := fun w1 hw => by
  obtain ⟨v, w', hr, hn⟩ := h w1 (hH.call hw)
  unfold wpOp
  simp only [at_list ho, hg, if_true]
  exact .inl (by unfold Oper.wp; rw [hr]; exact hn)
theorem plan_ek (hH : Hp S w0 w L) (ho : ops[i]? = some o) (hg : Region.wanted o (yielded ops.toArray a.tmps) = true) (h : ∀ w1, Hp S w0 w1 L → ∃ w', (execOp a.eval o).run P w1 = .ok .skip w' ∧ wpPlan P ops.toArray Q r (a.put o.dst undef) w') : wpPlan P ops.toArray Q (.e i :: r) a w := fun w1 hw => by
  obtain ⟨w', hr, hn⟩ := h w1 (hH.call hw)
  unfold wpOp
  simp only [at_list ho, hg, if_true]
  exact .inl (by unfold Oper.wp; rw [hr]; exact hn)
theorem plan_xv (hH : Hp S w0 w L) (ho : ops[i]? = some o) (hg : Region.wanted o (yielded ops.toArray a.tmps) = true) (h : ∀ w1, Hp S w0 w1 L → ∃ v w', (execOp a.eval o).run P w1 = .ok (.value v) w' ∧ Chg [] w1 w' ∧ wpPlan P ops.toArray Q r (a.put o.dst v) w') : wpPlan P ops.toArray Q (.x i :: r) a w := fun w1 hw => by
  obtain ⟨v, w', hr, hn⟩ := h w1 (hH.call hw)
  unfold wpOp
  simp only [at_list ho, hg, if_true]
  exact .inl (by unfold Oper.wp; rw [hr]; exact hn)
def RRun (P : Program) (o : Oper) (a : Act) (R : World → World → Prop) (w : World) (v : Value) : Prop := ∀ w', R w w' → o.quietAt P a (Chg [] w') w' v
theorem RRun.of_l {R : World → World → Prop} (h : ∀ w', R w w' → LRun P o a w' v) : RRun P o a R w v := fun w' hw => by
  unfold Oper.quietAt; rw [h w' hw]; exact ⟨rfl, rfl⟩
theorem plan_r {R : World → World → Prop} (ho : ops[i]? = some o) (hg : Region.wanted o (yielded ops.toArray a.tmps) = true) (hrun : RRun P o a R w v) (h : wpPlan P ops.toArray Q r (a.put o.dst v) w) : wpPlan P ops.toArray Q (.r i R :: r) a w :=
  ⟨o, at_list ho, v, .inl ⟨hg, hrun⟩, h⟩
theorem rr_load1 {R : World → World → Prop} {D : TypeDesc} {b o : Nat} {cs : Array Value} (hR : ∀ w', R w w' → Blk w' b T cs) (hx : a.eval x = PT b o) (hu : P.underlying t = some D) (hD : isAggD D = false) (hc : cs[o]? = some v) : RRun P ⟨d, .load t x, ty, pos, af, g⟩ a R w v :=
  .of_l fun w' hw => lr_load1 hx hu hD ((hR w' hw).cell hc)
theorem qr_load1 {D : TypeDesc} {b o : Nat} (hx : a.eval x = PT b o) (hu : P.underlying t = some D) (hD : isAggD D = false) (hc : w.cell? ⟨b, o, none⟩ = some v) : QRun P ⟨d, .load t x, ty, pos, af, g⟩ a w v :=
  .of_l fun _ hw => lr_load1 hx hu hD (hw.nil_cell hc)
theorem qr_loadN {D : TypeDesc} {b o n : Nat} {cs : Array Value} (hx : a.eval x = PT b o) (hb : Blk w b T cs) (hu : P.underlying t = some D) (hD : isAggD D = true) (hs : szc P t = some n) (hn : o + n ≤ cs.size) :
    QRun P ⟨d, .load t x, ty, pos, af, g⟩ a w (.agg (cs.extract o (o + n))) := .of_l fun _ hw => lr_loadN hx (hw.nil_blk hb) hu hD hs hn
theorem qr_loadW {D : TypeDesc} {b n : Nat} {cs : Array Value} (hx : a.eval x = PT b 0) (hb : Blk w b T cs) (hu : P.underlying t = some D) (hD : isAggD D = true) (hs : szc P t = some n) (hn : cs.size = n) :
    QRun P ⟨d, .load t x, ty, pos, af, g⟩ a w (.agg cs) := .of_l fun _ hw => lr_loadW hx (hw.nil_blk hb) hu hD hs hn
theorem plan_store1 (n : Nat) {b o : Nat} {cs : Array Value} {v : Value} (ho : ops[i]? = some ⟨none, .store t x y, ty, pos, af, g⟩) (hg : Region.wanted ⟨none, .store t x y, ty, pos, af, g⟩ (yielded ops.toArray a.tmps) = true)
    (hH : Hp S w0 w L) (hx : a.eval x = PT b o) (hi : L[n]? = some (some b, T, cs)) (hy : a.eval y = v) (h1 : v.oneCell' = true) (hs : szc P t = some 1) (hlt : o < cs.size)
    (h : ∀ w', Hp S w0 w' (L.set n (some b, T, cs.setIfInBounds o v)) → wpPlan P ops.toArray Q r a w') : wpPlan P ops.toArray Q (.e i :: r) a w := by
  refine plan_ek hH ho hg fun w hH => ?_
  have hb := hH.blk n hi
  have hc : v.cells = #[v] := by cases v <;> simp_all [Value.cells, Value.oneCell']
  refine ⟨w.setCell ⟨b, o, none⟩ v, ?_, h _ (hH.store n hi o v)⟩
  have hst : (store (⟨b, o, none⟩ : Addr) v).run P w = .ok () (w.setCell ⟨b, o, none⟩ v) := by
    rw [run_store P w _ v _ h1, hb.cell (Array.getElem?_eq_getElem hlt)]
    simp [hb.free hlt]
  simp [execOp, hx, hy, Instr.storeAt, Instr.sureAddr, storeVar, run_sizeOf hs, hc, storeCells, addr_add, hst]
theorem plan_storeN (n : Nat) {b o m : Nat} {cs vs : Array Value} (ho : ops[i]? = some ⟨none, .store t x y, ty, pos, af, g⟩) (hg : Region.wanted ⟨none, .store t x y, ty, pos, af, g⟩ (yielded ops.toArray a.tmps) = true)
    (hH : Hp S w0 w L) (hx : a.eval x = PT b o) (hi : L[n]? = some (some b, T, cs)) (hy : a.eval y = .agg vs) (h1 : ∀ v ∈ vs.toList, v.oneCell' = true) (hs : szc P t = some m) (hm : vs.size = m) (hlt : o + m ≤ cs.size)
    (h : ∀ w', Hp S w0 w' (L.set n (some b, T, splice cs o vs)) → wpPlan P ops.toArray Q r a w') : wpPlan P ops.toArray Q (.e i :: r) a w := by
  refine plan_ek hH ho hg fun w hH => ?_
  have hb := hH.blk n hi
  obtain ⟨w', hr, hB, hoth, hsz, e1, e2, e3⟩ := run_storeCells_blk (P := P) vs.toList 0 o w cs hb (by simp; omega) h1
  refine ⟨w', ?_, h _ (hH.put n hi ?_ (by simpa using hB) fun k hk _ => hoth k hk)⟩
  · simp [execOp, hx, hy, Instr.storeAt, Instr.sureAddr, storeVar, run_sizeOf hs, Value.cells, hm, hr]
  · refine hH.chg.trans' (T := [b]) ⟨e1, e2, e3, by omega, fun k hk hn => hoth k (by simpa using hn)⟩ ?_
    intro z hz hlt
    simp only [List.mem_singleton] at hz
    subst hz
    rcases hH.mine n hi with h1 | h1
    · omega
    · exact h1
theorem plan_storeW (n : Nat) {b m : Nat} {cs vs : Array Value} (ho : ops[i]? = some ⟨none, .store t x y, ty, pos, af, g⟩) (hg : Region.wanted ⟨none, .store t x y, ty, pos, af, g⟩ (yielded ops.toArray a.tmps) = true)
    (hH : Hp S w0 w L) (hx : a.eval x = PT b 0) (hi : L[n]? = some (some b, T, cs)) (hy : a.eval y = .agg vs) (h1 : ∀ v ∈ vs.toList, v.oneCell' = true) (hs : szc P t = some m) (hm : vs.size = m) (hlt : cs.size = m)
    (h : ∀ w', Hp S w0 w' (L.set n (some b, T, vs)) → wpPlan P ops.toArray Q r a w') : wpPlan P ops.toArray Q (.e i :: r) a w :=
  plan_storeN n ho hg hH hx hi hy h1 hs hm (by omega) fun w' h' => h w' (by rwa [splice_all (by omega)] at h')
def zeroC (P : Program) (t : TypeId) : Option (Array Value) := ((P.info? t).bind (·.zero)).map Value.cells
theorem plan_alloc {dst : Tmp} {cs : Array Value} (ho : ops[i]? = some ⟨some dst, .alloc t, ty, pos, af, g⟩) (hg : Region.wanted ⟨some dst, .alloc t, ty, pos, af, g⟩ (yielded ops.toArray a.tmps) = true)
    (hH : Hp S w0 w L) (hz : zeroC P t = some cs) (h : ∀ b w', Hp S w0 w' (L ++ [(some b, t, cs)]) → wpPlan P ops.toArray Q r (a.put (some dst) (PT b 0)) w') : wpPlan P ops.toArray Q (.x i :: r) a w := by
  refine plan_xv hH ho hg fun w hH => ⟨PT w.heap.size 0, w.alloc (.cells cs t), ?_, (Chg.refl _ _).alloc _, h _ _ (hH.alloc t cs)⟩
  unfold zeroC at hz
  obtain ⟨z, hz1, rfl⟩ := Option.map_eq_some_iff.1 hz
  obtain ⟨inf, hi, hz2⟩ := Option.bind_eq_some_iff.1 hz1
  simp [execOp, Instr.alloc, zeroValue, typeInfo, hi, hz2, newVar, newRow]
theorem plan_box {dst : Tmp} {v : Value} (ho : ops[i]? = some ⟨some dst, .box t x, ty, pos, af, g⟩) (hg : Region.wanted ⟨some dst, .box t x, ty, pos, af, g⟩ (yielded ops.toArray a.tmps) = true)
    (hH : Hp S w0 w L) (hx : a.eval x = v) (h : ∀ b w', Hp S w0 w' (L ++ [(some b, t, v.cells)]) → wpPlan P ops.toArray Q r (a.put (some dst) (PT b 0)) w') : wpPlan P ops.toArray Q (.x i :: r) a w := by
  refine plan_xv hH ho hg fun w hH => ⟨PT w.heap.size 0, w.alloc (.cells v.cells t), ?_, (Chg.refl _ _).alloc _, h _ _ (hH.alloc t v.cells)⟩
  simp [execOp, hx, Instr.box, newVar, newRow]
def Callable (P : Program) (f : FuncId) : Prop := ∃ fn, P.funcs[f]? = some fn ∧ (fn.name == "runtime.NumGoroutine") = false ∧ fn.body.isNone = false
theorem run_call {f : FuncId} {args : List Operand} {ats : Array TypeId} {vs : List Value} (hc : Callable P f) (hargs : args.map a.eval = vs) (w : World) : (execOp a.eval ⟨d, .call ⟨.value (.func f), args.toArray, ats⟩, ty, pos, af, g⟩).run P w = .ok (.enter f vs.toArray) w := by
  obtain ⟨fn, hf, hn, hb⟩ := hc
  have h1 : (callFunc f vs.toArray).run P w = .ok (.enter f vs.toArray) w := by
    unfold callFunc
    rw [Sem.run_bind]
    simp only [run_program, Result.andThen_ok, hf, hn, hb, Bool.false_eq_true, if_false]
    rfl
  simp only [execOp, resolve, List.map_toArray, hargs, Act.eval, Deferred.ofValue, invoke, Sem.run_bind, Sem.run_pure, Result.andThen_ok, Array.empty_append, Array.append_empty, h1]
theorem qr_call {f : FuncId} {args : List Operand} {ats : Array TypeId} {vs : List Value} (hc : Callable P f) (hr : ∀ w', Chg [] w w' → Ret P f vs.toArray w' fun v' w'' => v' = v ∧ Chg [] w' w'') (hargs : args.map a.eval = vs) :
    QRun P ⟨d, .call ⟨.value (.func f), args.toArray, ats⟩, ty, pos, af, g⟩ a w v := fun w' hw => by
  unfold Oper.quietAt
  rw [run_call hc hargs w']
  exact ⟨rfl, (hr w' hw).calls.mono fun e w'' ⟨v', he, hv, hx⟩ => ⟨by rw [he, hv], hx⟩⟩
theorem plan_callx {f : FuncId} {args : List Operand} {ats : Array TypeId} {vs : List Value} {Post : World → Value → World → Prop} (ho : ops[i]? = some ⟨d, .call ⟨.value (.func f), args.toArray, ats⟩, ty, pos, af, g⟩)
    (hg : Region.wanted ⟨d, .call ⟨.value (.func f), args.toArray, ats⟩, ty, pos, af, g⟩ (yielded ops.toArray a.tmps) = true) (hH : Hp S w0 w L) (hc : Callable P f) (hr : ∀ w1, Hp S w0 w1 L → Ret P f vs.toArray w1 (Post w1)) (hargs : args.map a.eval = vs)
    (hx : ∀ w1 v w', Post w1 v w' → Chg [] w1 w') (h : ∀ w1 v w', Hp S w0 w1 L → Post w1 v w' → wpPlan P ops.toArray Q r (a.put d v) w') : wpPlan P ops.toArray Q (.x i :: r) a w := fun w1 hw => by
  unfold wpOp
  simp only [at_list ho, hg, if_true]
  refine .inl ?_
  unfold Oper.wp
  rw [run_call hc hargs w1, Oper.upon_enter]
  exact (hr w1 (hH.call hw)).calls.mono fun e w' ⟨v, he, hv⟩ => by subst he; exact ⟨hx _ _ _ hv, h w1 v w' (hH.call hw) hv⟩
theorem plan_calle {f : FuncId} {args : List Operand} {ats : Array TypeId} {vs : List Value} {Post : World → Value → World → Prop} (ho : ops[i]? = some ⟨d, .call ⟨.value (.func f), args.toArray, ats⟩, ty, pos, af, g⟩)
    (hg : Region.wanted ⟨d, .call ⟨.value (.func f), args.toArray, ats⟩, ty, pos, af, g⟩ (yielded ops.toArray a.tmps) = true) (hH : Hp S w0 w L) (hc : Callable P f) (hr : ∀ w1, Hp S w0 w1 L → Ret P f vs.toArray w1 (Post w1)) (hargs : args.map a.eval = vs)
    (h : ∀ w1 v w', Hp S w0 w1 L → Post w1 v w' → wpPlan P ops.toArray Q r (a.put d v) w') : wpPlan P ops.toArray Q (.e i :: r) a w := fun w1 hw => by
  unfold wpOp
  simp only [at_list ho, hg, if_true]
  refine .inl ?_
  unfold Oper.wp
  rw [run_call hc hargs w1, Oper.upon_enter]
  exact (hr w1 (hH.call hw)).calls.mono fun e w' ⟨v, he, hv⟩ => by subst he; exact h w1 v w' (hH.call hw) hv
end
theorem wp_loop_g {P : Program} {Q : Exit → Act → World → Prop} {c : Code} (I : Nat → Act → World → Prop) (round : ∀ n a w, I n a w → c.wp P (Exit.then (fun a' w' => ∃ m, m < n ∧ I m a' w') Q) a w) :
    ∀ (n : Nat) (a : Act) (w : World), I n a w → (Code.loop c).wp P Q a w := by
  intro n a w h₀ b k cs
  have key : ∀ n a w, I n a w → ∃ e a' w', Q e a' w' ∧ Arrives P (lone (b.at a (.code c :: .inLoop c :: k)) cs w) b k cs e a' w' := by
    intro n
    induction n using Nat.strongRecOn with
    | _ n ih =>
      intro a w hI
      obtain ⟨e, a₁, w₁, hq, harr⟩ := round n a w hI b (.inLoop c :: k) cs
      cases e with
      | normal =>
        obtain ⟨m, hlt, hI₁⟩ := hq
        obtain ⟨e₂, a₂, w₂, hq₂, harr₂⟩ := ih m hlt a₁ w₁ hI₁
        exact ⟨e₂, a₂, w₂, hq₂, .of_steps (Steps.trans harr (.one step_inLoop)) harr₂⟩
      | exit id => exact ⟨_, a₁, w₁, hq, .pass (x := .inLoop c) rfl (fun _ _ => .inl (by simp)) harr⟩
      | goto l => exact ⟨_, a₁, w₁, hq, .pass (x := .inLoop c) rfl (fun _ _ => .inl (by simp)) harr⟩
      | ret => exact ⟨_, a₁, w₁, hq, .pass (x := .inLoop c) rfl (fun _ _ => .inl (by simp)) harr⟩
      | panic ch => exact ⟨_, a₁, w₁, hq, .pass (x := .inLoop c) rfl (fun _ _ => .inl (by simp)) harr⟩
      | outgrown => exact ⟨_, a₁, w₁, hq, .pass (x := .inLoop c) rfl (fun _ _ => .inl (by simp)) harr⟩
  obtain ⟨e, a', w', hq, harr⟩ := key n a w h₀
  exact ⟨e, a', w', hq, .of_steps (.one step_loop) harr⟩
def putAll (tm : List Value) : List Nat → List Value → List Value
  | s :: ss, v :: vs => putAll (tm.set s v) ss vs
  | _, _ => tm
def getAll (tm : List Value) (slots : List Nat) : List Value := slots.map fun s => tm.getD s undef
def putD (tm d : List Value) : List Nat → Nat → List Value
  | s :: ss, k => putD (tm.set s (d.getD k undef)) d ss (k + 1)
  | [], _ => tm
theorem wp_loopT {P : Program} {Q : Exit → Act → World → Prop} {c : Code} {tm : List Value} (live dead : List Nat) (R : Nat → List Value → World → Prop) (n : Nat) {w : World} (hst : putD (putAll tm live (getAll tm live)) (getAll tm dead) dead 0 = tm)
    (h0 : R n (getAll tm live) w)
    (round : ∀ n vs w, R n vs w → ∀ d, c.wp P (Exit.then (fun a' w' => ∃ m, m < n ∧ ∃ tm', a' = ⟨tm'.toArray, []⟩ ∧ putD (putAll tm live (getAll tm' live)) (getAll tm' dead) dead 0 = tm' ∧ R m (getAll tm' live) w') Q) ⟨(putD (putAll tm live vs) d dead 0).toArray, []⟩ w) : (Code.loop c).wp P Q ⟨tm.toArray, []⟩ w := by
  refine wp_loop_g (fun n a w => ∃ tm', a = ⟨tm'.toArray, []⟩ ∧ putD (putAll tm live (getAll tm' live)) (getAll tm' dead) dead 0 = tm' ∧ R n (getAll tm' live) w) (fun n a w hI => ?_) n _ _ ⟨tm, rfl, hst, h0⟩
  obtain ⟨tm', rfl, h1, hR⟩ := hI
  have := round n (getAll tm' live) w hR (getAll tm' dead)
  rw [h1] at this
  exact this
section
variable {P : Program} {a : Act} {w : World} {d : Option Tmp} {ty : TypeId} {pos : String} {af : Array Edge} {g : Option (Nat × Bool)} {x y : Operand} {t T : TypeId}
theorem qr_load8 {D : TypeDesc} {b o n m : Nat} {f : Nat → UInt8} (hx : a.eval x = PT b o) (hb : Blk w b T (arr8 m f)) (hu : P.underlying t = some D) (hD : isAggD D = true) (hs : szc P t = some n) (hn : o + n ≤ m) :
    QRun P ⟨d, .load t x, ty, pos, af, g⟩ a w (.agg (arr8 n fun j => f (o + j))) := by
  have := qr_loadN (d := d) (ty := ty) (pos := pos) (af := af) (g := g) hx hb hu hD hs (by simpa using hn)
  rwa [arr8_extract hn] at this
theorem pr_slice_arr_lh1 {k k' : IntKind} {e : TypeId} {n s b o l h : Nat} {xl xh : Operand} (hx : a.eval x = PT b o) (hl : a.eval xl = .int k (l : Int)) (hh : a.eval xh = .int k' (h : Int))
    (hu : P.underlying t = some (.array n e)) (hs : szc P e = some s) (h1 : l ≤ h) (h2 : h ≤ n) (h3 : l < n) : PRun P ⟨d, .slice t x (some xl) (some xh) none, ty, pos, af, g⟩ a (.slice (some ⟨b, o + l * s, none⟩) (h - l) (n - l)) := by
  have := pr_slice_arr_lh (d := d) (ty := ty) (pos := pos) (af := af) (g := g) hx hl hh hu hs h1 h2
  rw [show cutA (some ⟨b, o, none⟩) l n s = some ⟨b, o + l * s, none⟩ by unfold cutA; rw [if_neg (by omega)]; simp [addr_add]] at this
  exact this
theorem pr_slice_arr_l1 {k : IntKind} {e : TypeId} {n s b o l : Nat} {xl : Operand} (hx : a.eval x = PT b o) (hl : a.eval xl = .int k (l : Int))
    (hu : P.underlying t = some (.array n e)) (hs : szc P e = some s) (h3 : l < n) : PRun P ⟨d, .slice t x (some xl) none none, ty, pos, af, g⟩ a (.slice (some ⟨b, o + l * s, none⟩) (n - l) (n - l)) := by
  have := pr_slice_arr_l (d := d) (ty := ty) (pos := pos) (af := af) (g := g) hx hl hu hs (by omega)
  rw [show cutA (some ⟨b, o, none⟩) l n s = some ⟨b, o + l * s, none⟩ by unfold cutA; rw [if_neg (by omega)]; simp [addr_add]] at this
  exact this
end
theorem BP.retc {P : Program} {fn : Func} {Post : Value → World → Prop} {tm : List Value} {w : World} {p : Tmp} {t T : TypeId} {D : TypeDesc} {b n : Nat} {cs : Array Value} (hr : fn.results = #[.cell p t]) (hp : tm.getD p undef = PT b 0) (hb : Blk w b T cs)
    (hu : P.underlying t = some D) (hD : isAggD D = true) (hs : szc P t = some n) (hn : cs.size = n) (h : Post (.agg cs) w) : BP P fn Post .ret ⟨tm.toArray, []⟩ w := by
  refine .of (v := .agg cs) ?_ rfl h
  have hl := run_loadN (P := P) (w := w) (b := b) (o := 0) (cs := cs) hu hD hs (fun j hj => by
    have hlt : 0 + j < cs.size := by omega
    rw [hb.cell (Array.getElem?_eq_getElem hlt), Array.getElem?_eq_getElem hlt]) (by omega)
  rw [show cs.extract 0 (0 + n) = cs by rw [Nat.zero_add, ← hn]; simp] at hl
  have hp' : tm[p]?.getD undef = PT b 0 := by rw [← hp, List.getD_eq_getElem?_getD]
  simp [results, hr, hp', asAddr, hl]
theorem Hp.cast {S : List Nat} {w0 w : World} {L L' : List Own} (h : Hp S w0 w L) (e : L = L') : Hp S w0 w L' := e ▸ h
theorem Hp.take {S : List Nat} {w0 w : World} {L : List Own} (h : Hp S w0 w L) (n : Nat) : Hp S w0 w (L.take n) where
  chg := h.chg
  own e he := h.own e (List.mem_of_mem_take he)
  apart i j b hi hj := by
    have key : ∀ m : Nat, ((L.take n)[m]?).bind Own.at = some b → (L[m]?).bind Own.at = some b := by
      intro m hm
      rw [List.getElem?_take] at hm
      split at hm
      · exact hm
      · simp at hm
    exact h.apart i j b (key i hi) (key j hj)
theorem Hp.say {S : List Nat} {w0 w : World} {L : List Own} (h : Hp S w0 w L) (i : Nat) {b : Option Nat} {t : TypeId} {cs cs' : Array Value} (hi : L[i]? = some (b, t, cs)) (e : cs = cs') : Hp S w0 w (L.set i (b, t, cs')) := by
  subst e
  have : L.set i (b, t, cs) = L := by
    apply List.ext_getElem?
    intro j
    rw [List.getElem?_set]
    split
    · rename_i hij; subst hij
      split
      · exact hi.symm
      · rename_i hl; rw [List.getElem?_eq_none (by omega)] at hi; cases hi
    · rfl
  rw [this]; exact h
theorem eval_tmp (l : List Value) (ds : List Deferred) (t : Tmp) : (Act.mk l.toArray ds).eval (.tmp t) = l.getD t undef := by simp [Act.eval]
theorem put_some (l : List Value) (ds : List Deferred) (t : Tmp) (v : Value) : (Act.mk l.toArray ds).put (some t) v = Act.mk (l.set t v).toArray ds := by simp [Act.put]
theorem frame_enter (l : List Value) (n : Nat) : l.toArray ++ Array.replicate n undef = (l ++ List.replicate n undef).toArray := by simp
theorem pr_const_n {P : Program} {a : Act} {d : Option Tmp} {ty : TypeId} {pos : String} {af : Array Edge} {g : Option (Nat × Bool)} (n : Nat) {m : Int} (h : m = (n : Int)) : PRun P ⟨d, .move (.const (.int .i64 m)), ty, pos, af, g⟩ a (I64 (n : Nat)) := fun _ => by subst h; rfl
theorem pr_aconst_n {P : Program} {a : Act} {d : Option Tmp} {ty : TypeId} {pos : String} {af : Array Edge} {g : Option (Nat × Bool)} (n : Nat) {m : Int} (h : m = (n : Int)) : PRun P ⟨d, .assign (.const (.int .i64 m)), ty, pos, af, g⟩ a (I64 (n : Nat)) := fun _ => by subst h; rfl
theorem one_arr8 {n : Nat} {f : Nat → UInt8} : ∀ v ∈ (arr8 n f).toList, v.oneCell' = true := by
  intro v hv
  simp [arr8, tabV] at hv
  obtain ⟨i, _, rfl⟩ := hv; rfl
theorem one_arr32 {n : Nat} {f : Nat → UInt32} : ∀ v ∈ (arr32 n f).toList, v.oneCell' = true := by
  intro v hv
  simp [arr32, tabV] at hv
  obtain ⟨i, _, rfl⟩ := hv; rfl
theorem one_arr64 {n : Nat} {f : Nat → UInt64} : ∀ v ∈ (arr64 n f).toList, v.oneCell' = true := by
  intro v hv
  simp [arr64, tabV] at hv
  obtain ⟨i, _, rfl⟩ := hv; rfl
theorem notAgg {P : Program} {t : TypeId} {D : TypeDesc} (hu : P.underlying t = some D) (hD : isAggD D = false) : ∀ w, (isAgg t).run P w = .ok false w := fun w => by rw [run_isAgg hu, hD]
theorem nf : (∀ (l : List Value) (ds : List Deferred) (t : Tmp), (Act.mk l.toArray ds).eval (.tmp t) = l.getD t undef) ∧ (∀ (a : Act) (v : Value), a.eval (.const v) = v) ∧
  (∀ (l : List Value) (ds : List Deferred) (t : Tmp) (v : Value), (Act.mk l.toArray ds).put (some t) v = Act.mk (l.set t v).toArray ds) ∧ (∀ (a : Act) (v : Value), a.put none v = a) ∧
  (∀ (α : Type) (x : α) (xs : List α) (d : α), (x :: xs).getD 0 d = x) ∧ (∀ (α : Type) (x : α) (xs : List α) (n : Nat) (d : α), (x :: xs).getD (n + 1) d = xs.getD n d) ∧
  (∀ (α : Type) (x : α) (xs : List α) (a : α), (x :: xs).set 0 a = a :: xs) ∧ (∀ (α : Type) (x : α) (xs : List α) (n : Nat) (a : α), (x :: xs).set (n + 1) a = x :: xs.set n a) ∧
  (∀ n : Nat, 0 + n = n) ∧ (∀ n : Nat, n + 0 = n) ∧ (∀ n : Nat, n * 1 = n) ∧ (∀ n : Nat, 0 * n = 0) ∧
  (∀ (α : Type) (xs : List α) (i : Nat) (h : i < xs.toArray.size), xs.toArray[i] = xs[i]'(by simpa using h)) ∧ (∀ (α : Type) (x : α) (xs : List α) (h : 0 < (x :: xs).length), (x :: xs)[0] = x) ∧
  (∀ (α : Type) (x : α) (xs : List α) (i : Nat) (h : i + 1 < (x :: xs).length), (x :: xs)[i + 1] = xs[i]'(Nat.lt_of_succ_lt_succ h)) :=
  ⟨eval_tmp, fun _ _ => rfl, put_some, fun _ _ => rfl, fun _ _ _ _ => rfl, fun _ _ _ _ _ => rfl, fun _ _ _ _ => rfl, fun _ _ _ _ _ => rfl, Nat.zero_add, Nat.add_zero, Nat.mul_one, Nat.zero_mul, fun _ _ _ h => List.getElem_toArray h, fun _ _ _ _ => rfl, fun _ _ _ _ _ => rfl⟩
theorem nh : (∀ (α : Type) (x : α) (xs ys : List α), (x :: xs) ++ ys = x :: (xs ++ ys)) ∧ (∀ (α : Type) (ys : List α), [] ++ ys = ys) ∧ (∀ (α : Type) (xs : List α) (i : Nat) (a : α), xs.toArray.setIfInBounds i a = (xs.set i a).toArray) ∧
  (∀ (n : Nat) (f : Nat → UInt8) (k : Nat) (v : UInt8), (arr8 n f).setIfInBounds k (V8 v) = arr8 n (upd f k v)) ∧ (∀ (n : Nat) (f : Nat → UInt32) (k : Nat) (v : UInt32), (arr32 n f).setIfInBounds k (V32 v) = arr32 n (upd f k v)) ∧ (∀ (n : Nat) (f : Nat → UInt64) (k : Nat) (v : UInt64), (arr64 n f).setIfInBounds k (V64 v) = arr64 n (upd f k v)) :=
  ⟨fun _ _ _ _ => rfl, fun _ _ => rfl, fun _ _ _ _ => List.setIfInBounds_toArray .., fun _ _ _ _ => arr8_set, fun _ _ _ _ => arr32_set, fun _ _ _ _ => arr64_set⟩
section
variable {P : Program} {ops : List Oper} {Q : Exit → Act → World → Prop} {r : List PStep} {a : Act} {w : World} {i : Nat} {d : Option Tmp} {ty : TypeId} {pos : String} {af : Array Edge} {x : Operand} {o : Oper} {v : Value}
theorem pp (ho : ops[i]? = some o) (hg : Region.wanted o (yielded ops.toArray a.tmps) = true) (hrun : PRun P o a v) (h : wpPlan P ops.toArray Q r (a.put o.dst v) w) : wpPlan P ops.toArray Q (.p i :: r) a w := plan_p ho hg hrun h
theorem pq (ho : ops[i]? = some o) (hg : Region.wanted o (yielded ops.toArray a.tmps) = true) (hrun : QRun P o a w v) (h : wpPlan P ops.toArray Q r (a.put o.dst v) w) : wpPlan P ops.toArray Q (.q i :: r) a w := plan_q ho hg hrun h
theorem pm (h : wpPlan P ops.toArray Q r (a.put d (a.eval x)) w) (ho : ops[i]? = some ⟨d, .move x, ty, pos, af, none⟩ := by rfl) : wpPlan P ops.toArray Q (.p i :: r) a w := plan_p ho rfl pr_move h
theorem pa (h : wpPlan P ops.toArray Q r (a.put d (a.eval x)) w) (ho : ops[i]? = some ⟨d, .assign x, ty, pos, af, none⟩ := by rfl) : wpPlan P ops.toArray Q (.p i :: r) a w := plan_p ho rfl pr_assign h
theorem pk (n : Nat) {m : Int} (h : wpPlan P ops.toArray Q r (a.put d (I64 (n : Nat))) w) (ho : ops[i]? = some ⟨d, .move (.const (.int .i64 m)), ty, pos, af, none⟩ := by rfl) (hm : m = (n : Int) := by rfl) : wpPlan P ops.toArray Q (.p i :: r) a w := plan_p ho rfl (pr_const_n n hm) h
theorem pka (n : Nat) {m : Int} (h : wpPlan P ops.toArray Q r (a.put d (I64 (n : Nat))) w) (ho : ops[i]? = some ⟨d, .assign (.const (.int .i64 m)), ty, pos, af, none⟩ := by rfl) (hm : m = (n : Int) := by rfl) : wpPlan P ops.toArray Q (.p i :: r) a w := plan_p ho rfl (pr_aconst_n n hm) h
theorem wrp {id : Nat} {l : List Oper} (pl : List PStep) (h : wpPlan P l.toArray Q pl a w) (hQ : ∀ c a d v w, Q (.panic c) (a.put d v) w → Q (.panic c) a w := by (intro _ _ _ _ _ h; first | exact h | exact BP.panic _ _ _ _ _ h))
    (hm : P.follows .mixedOrders = true := by kernel_rfl) (hsel : Region.noSelect l.toArray = true := by kernel_rfl) (hlen : (pl.length ≤ l.toArray.size : Bool) = true := by kernel_rfl) (hok : planOK (tabOf .any l.toArray) (effects pl) pl [] = true := by kernel_rfl) : (Code.region id l.toArray true).wp P Q a w :=
  wp_region_plan pl hm hsel hlen hok hQ h
theorem wrt {id : Nat} {l : List Oper} (pl : List PStep) (h : wpPlan P l.toArray Q pl a w) (hpl : pl.map PStep.idx = List.range l.toArray.size := by rfl) (hF : noR pl = true := by rfl) : (Code.region id l.toArray false).wp P Q a w := wp_region_text pl hpl h hF
end
theorem cnd : (∀ (p : Prop) [Decidable p], (decide p = true) = p) ∧ (∀ (p : Prop) [Decidable p], (decide p = false) = ¬ p) ∧ (∀ (α : Type) [BEq α] [LawfulBEq α] (a b : α), ((a == b) = true) = (a = b)) ∧ (∀ (α : Type) [BEq α] [LawfulBEq α] (a b : α), ((a != b) = true) = ¬ (a = b)) ∧
  (∀ (α : Type) [BEq α] [LawfulBEq α] (a b : α), ((a == b) = false) = ¬ (a = b)) ∧ (∀ (α : Type) [BEq α] [LawfulBEq α] (a b : α), ((a != b) = false) = (a = b)) ∧ (∀ b : Bool, ((!b) = true) = (b = false)) ∧ (∀ b : Bool, ((!b) = false) = (b = true)) ∧
  (∀ a b : Nat, (¬ a < b) = (b ≤ a)) ∧ (∀ a b : Nat, (¬ a ≤ b) = (b < a)) ∧ (∀ (α : Type) [LT α] (a b : α), (a > b) = (b < a)) ∧ (∀ (α : Type) [LE α] (a b : α), (a ≥ b) = (b ≤ a)) := by
  refine ⟨fun p _ => by simp, fun p _ => by simp, fun α _ _ a b => by simp, fun α _ _ a b => by simp, fun α _ _ a b => by simp, fun α _ _ a b => by simp, by simp, by simp, fun a b => by simp, fun a b => by simp, fun _ _ _ _ => rfl, fun _ _ _ _ => rfl⟩
theorem ga : (∀ (tm : List Value) (s : List Nat), getAll tm s = s.map fun s => tm.getD s undef) ∧ (∀ (α β : Type) (f : α → β) (x : α) (xs : List α), (x :: xs).map f = f x :: xs.map f) ∧ (∀ (α β : Type) (f : α → β), ([] : List α).map f = []) ∧
  (∀ (α : Type) (x : α) (xs : List α) (d : α), (x :: xs).getD 0 d = x) ∧ (∀ (α : Type) (x : α) (xs : List α) (n : Nat) (d : α), (x :: xs).getD (n + 1) d = xs.getD n d) := ⟨fun _ _ => rfl, fun _ _ _ _ _ => rfl, fun _ _ _ => rfl, fun _ _ _ _ => rfl, fun _ _ _ _ _ => rfl⟩
theorem fe : (∀ (α : Type) (l : List α), l.toArray.size = l.length) ∧ (∀ (α : Type) (x : α) (l : List α), (x :: l).length = l.length + 1) ∧ (∀ α : Type, ([] : List α).length = 0) ∧ (∀ (l : List Value) (n : Nat), l.toArray ++ Array.replicate n undef = (l ++ List.replicate n undef).toArray) ∧
  (∀ (α : Type) (n : Nat) (x : α), List.replicate (n + 1) x = x :: List.replicate n x) ∧ (∀ (α : Type) (x : α), List.replicate 0 x = []) ∧ (∀ (α : Type) (l : List α), [] ++ l = l) ∧ (∀ (α : Type) (x : α) (l m : List α), (x :: l) ++ m = x :: (l ++ m)) :=
  ⟨fun _ _ => List.size_toArray, fun _ _ _ => rfl, fun _ => rfl, frame_enter, fun _ _ _ => rfl, fun _ _ => rfl, fun _ _ => rfl, fun _ _ _ _ => rfl⟩
end Go.Proofs.YtdkjdioccpoacaaDoor
set_option linter.unusedSimpArgs false
set_option linter.unusedVariables false
namespace Go.Proofs.YtdkjdioccpoacaaDoor
open Go
def Sl (w : World) (v : Value) (l : List UInt8) : Prop :=
  ∃ ad c, v = .slice ad l.length c ∧ l.length ≤ c ∧ (l ≠ [] → ∃ b o, ad = some ⟨b, o, none⟩ ∧ ∀ i (h : i < l.length), w.cell? ⟨b, o + i, none⟩ = some (V8 l[i]))
def slb : Value → Nat
  | .slice (some a) _ _ => a.block
  | _ => 0
def slo : Value → Nat
  | .slice (some a) _ _ => a.off
  | _ => 0
def slcut (v : Value) (lo hi : Nat) : Value :=
  match v with
  | .slice ad _ c => .slice (cutA ad lo c 1) (hi - lo) (c - lo)
  | v => v
theorem Sl.chg {w w' : World} {v : Value} {l : List UInt8} (h : Sl w v l) (hc : Chg [] w w') : Sl w' v l := by
  obtain ⟨ad, c, hv, hl, hr⟩ := h
  refine ⟨ad, c, hv, hl, fun hne => ?_⟩
  obtain ⟨b, o, ha, hcell⟩ := hr hne
  exact ⟨b, o, ha, fun i hi => hc.nil_cell (hcell i hi)⟩
theorem Sl.cell {w : World} {v : Value} {l : List UInt8} (h : Sl w v l) {i : Nat} (hi : i < l.length) : w.cell? ⟨slb v, slo v + i, none⟩ = some (V8 (l.getD i 0)) := by
  obtain ⟨ad, c, rfl, hl, hr⟩ := h
  obtain ⟨b, o, rfl, hcell⟩ := hr (by intro e; subst e; simp at hi)
  have := hcell i hi
  simpa [slb, slo, List.getD, hi] using this
theorem Sl.nil {w : World} : Sl w (.slice none 0 0) [] := ⟨none, 0, rfl, Nat.le_refl _, fun h => absurd rfl h⟩
theorem Sl.of_eq {w : World} {v : Value} {l l' : List UInt8} (h : Sl w v l) (e : l = l') : Sl w v l' := e ▸ h
theorem Sl.of_blk {w : World} {b o n c T : Nat} {cs : Array Value} {l : List UInt8} (hb : Blk w b T cs) (hl : l.length = n) (hn : n ≤ c) (h : ∀ i (h : i < l.length), cs[o + i]? = some (V8 l[i])) : Sl w (.slice (some ⟨b, o, none⟩) n c) l := by
  subst hl
  exact ⟨_, c, rfl, hn, fun _ => ⟨b, o, rfl, fun i hi => hb.cell (h i hi)⟩⟩
theorem Sl.of_arr8 {w : World} {b o n c T m : Nat} {f : Nat → UInt8} (hb : Blk w b T (arr8 m f)) (hn : n ≤ c) (hm : o + n ≤ m) : Sl w (.slice (some ⟨b, o, none⟩) n c) ((List.range n).map fun i => f (o + i)) :=
  Sl.of_blk hb (by simp) hn fun i hi => by simp at hi; rw [arr8_get (by omega)]; simp
theorem Sl.len {w : World} {v : Value} {l : List UInt8} (h : Sl w v l) : ∃ ad c, v = .slice ad l.length c ∧ l.length ≤ c := by
  obtain ⟨ad, c, hv, hl, _⟩ := h; exact ⟨ad, c, hv, hl⟩
theorem cutA_full {ad : Option Addr} {c : Nat} : cutA ad 0 c 1 = ad := by
  unfold cutA; split
  · rfl
  · cases ad <;> simp [Addr.add]
theorem Sl.cut {w : World} {v : Value} {l : List UInt8} (h : Sl w v l) {lo hi : Nat} (h1 : lo ≤ hi) (h2 : hi ≤ l.length) : Sl w (slcut v lo hi) ((l.drop lo).take (hi - lo)) := by
  obtain ⟨ad, c, rfl, hl, hr⟩ := h
  have hlen : ((l.drop lo).take (hi - lo)).length = hi - lo := by simp; omega
  refine ⟨cutA ad lo c 1, c - lo, by simp only [slcut, hlen], by rw [hlen]; omega, fun hne => ?_⟩
  have hlt : lo < hi := by
    rcases Nat.lt_or_ge lo hi with h | h
    · exact h
    · exfalso; apply hne; apply List.eq_nil_of_length_eq_zero; rw [hlen]; omega
  obtain ⟨b, o, rfl, hcell⟩ := hr (by intro e; subst e; simp at h2; omega)
  refine ⟨b, o + lo, ?_, fun i hi' => ?_⟩
  · unfold cutA; rw [if_neg (by omega)]; simp [addr_add]
  · rw [hlen] at hi'
    have := hcell (lo + i) (by omega)
    rw [show o + lo + i = o + (lo + i) by omega, this]
    simp
theorem Sl.cutl {w : World} {v : Value} {l : List UInt8} (h : Sl w v l) {lo : Nat} (h1 : lo ≤ l.length) : Sl w (slcut v lo l.length) (l.drop lo) := by
  have := h.cut h1 (Nat.le_refl _)
  rwa [List.take_of_length_le (by simp)] at this
theorem Sl.cuth {w : World} {v : Value} {l : List UInt8} (h : Sl w v l) {hi : Nat} (h1 : hi ≤ l.length) : Sl w (slcut v 0 hi) (l.take hi) := by
  have := h.cut (Nat.zero_le _) h1
  simpa using this
section
variable {P : Program} {a : Act} {w : World} {d : Option Tmp} {ty : TypeId} {pos : String} {af : Array Edge} {g : Option (Nat × Bool)} {x y : Operand} {t T : TypeId}
theorem pr_len_Sl {e : TypeId} {v : Value} {l : List UInt8} (h : Sl w v l) (hx : a.eval x = v) (hu : P.underlying t = some (.slice e)) : PRun P ⟨d, .call ⟨.builtin .len, #[x], #[t]⟩, ty, pos, af, g⟩ a (I64 (l.length : Nat)) := by
  obtain ⟨ad, c, rfl, hl⟩ := h.len
  exact pr_len_sl hx hu
theorem pr_idx_Sl {k : IntKind} {e : TypeId} {i : Nat} {v : Value} {l : List UInt8} (h : Sl w v l) (hx : a.eval x = v) (hy : a.eval y = .int k (i : Int)) (hu : P.underlying t = some (.slice e)) (hs : szc P e = some 1) (hi : i < l.length) :
    PRun P ⟨d, .indexAddr t x y, ty, pos, af, g⟩ a (PT (slb v) (slo v + i)) := by
  obtain ⟨ad, c, rfl, hl, hr⟩ := h
  obtain ⟨b, o, rfl, hcell⟩ := hr (by intro e; subst e; simp at hi)
  exact pr_idxS1 hx hy hu hs hi
theorem pr_slice_Sl_lh {k k' : IntKind} {e : TypeId} {lo hi : Nat} {xl xh : Operand} {v : Value} {l : List UInt8} (h : Sl w v l) (hx : a.eval x = v) (hl : a.eval xl = .int k (lo : Int)) (hh : a.eval xh = .int k' (hi : Int))
    (hu : P.underlying t = some (.slice e)) (hs : szc P e = some 1) (h1 : lo ≤ hi) (h2 : hi ≤ l.length) : PRun P ⟨d, .slice t x (some xl) (some xh) none, ty, pos, af, g⟩ a (slcut v lo hi) := by
  obtain ⟨ad, c, rfl, hl'⟩ := h.len
  exact pr_slice_lh hx hl hh hu hs h1 (by omega)
theorem pr_slice_Sl_h {k' : IntKind} {e : TypeId} {hi : Nat} {xh : Operand} {v : Value} {l : List UInt8} (h : Sl w v l) (hx : a.eval x = v) (hh : a.eval xh = .int k' (hi : Int))
    (hu : P.underlying t = some (.slice e)) (hs : szc P e = some 1) (h2 : hi ≤ l.length) : PRun P ⟨d, .slice t x none (some xh) none, ty, pos, af, g⟩ a (slcut v 0 hi) := by
  obtain ⟨ad, c, rfl, hl'⟩ := h.len
  have := pr_slice_h (d := d) (ty := ty) (pos := pos) (af := af) (g := g) hx hh hu hs (show hi ≤ c by omega)
  simpa [slcut, cutA_full] using this
theorem pr_slice_Sl_l {k : IntKind} {e : TypeId} {lo : Nat} {xl : Operand} {v : Value} {l : List UInt8} (h : Sl w v l) (hx : a.eval x = v) (hl : a.eval xl = .int k (lo : Int))
    (hu : P.underlying t = some (.slice e)) (hs : szc P e = some 1) (h2 : lo ≤ l.length) : PRun P ⟨d, .slice t x (some xl) none none, ty, pos, af, g⟩ a (slcut v lo l.length) := by
  obtain ⟨ad, c, rfl, hl'⟩ := h.len
  exact pr_slice_l hx hl hu hs h2
theorem pr_s2ap_Sl {e : TypeId} {m : Nat} {v : Value} {l : List UInt8} (h : Sl w v l) (hx : a.eval x = v) (hu : P.underlying t = some (.array m e)) (hm : 0 < m) (hl : m ≤ l.length) : PRun P ⟨d, .sliceToArrayPointer t x, ty, pos, af, g⟩ a (PT (slb v) (slo v)) := by
  obtain ⟨ad, c, rfl, hl', hr⟩ := h
  obtain ⟨b, o, rfl, hcell⟩ := hr (by intro e; subst e; simp at hl; omega)
  exact pr_s2ap hx hu hl
theorem qr_load_Sl {D : TypeDesc} {n : Nat} {v : Value} {l : List UInt8} (h : Sl w v l) (hx : a.eval x = PT (slb v) (slo v)) (hu : P.underlying t = some D) (hD : isAggD D = true) (hs : szc P t = some n) (hn : n ≤ l.length) :
    QRun P ⟨d, .load t x, ty, pos, af, g⟩ a w (.agg (arr8 n fun i => l.getD i 0)) := .of_l fun w' hw => by
  refine run_ok_value (w := w') ?_
  have hc : ∀ j, j < n → w'.cell? ⟨slb v, slo v + j, none⟩ = some (V8 (l.getD j 0)) := fun j hj => (h.chg hw).cell (by omega)
  have hl := run_loadCells (P := P) w' ⟨slb v, slo v, none⟩ n (fun j => V8 (l.getD j 0)) (fun j hj => by rw [addr_add]; exact hc j hj)
  simp only [hx, Instr.loadAt, Instr.sureAddr, Sem.run_bind, Sem.run_pure, Result.andThen_ok, loadVar, run_isAgg hu, hD, if_true, run_sizeOf hs, hl]
  rfl
theorem qr_b2s {s e : TypeId} {v : Value} {l : List UInt8} (h : Sl w v l) (hx : a.eval x = v) (hs : P.underlying s = some (.slice e)) (he : P.underlying e = some (.int .u8)) (hd : P.underlying t = some .string) :
    QRun P ⟨d, .convert s t x, ty, pos, af, g⟩ a w (.string ⟨l.toArray⟩) := .of_l fun w' hw => by
  refine run_ok_value (w := w') ?_
  have h' := h.chg hw
  obtain ⟨ad, c, rfl, hl, hr⟩ := h'
  rw [hx]
  rw [run_convert_bytes_string w' s t e ad l.length c hs he hd]
  have hcs : ∀ ad0, ad = some ad0 → (loadCells ad0 l.length).run P w' = .ok ((l.map fun z => (z.toNat : Int)).map (Value.int .u8)).toArray w' := by
    intro ad0 had
    by_cases hne : l = []
    · subst hne; rfl
    · obtain ⟨b, o, hb, hcell⟩ := hr hne
      rw [hb] at had; cases had
      have hcs := run_loadCells_list (P := P) w' ⟨b, o, none⟩ (l.map V8) (fun j v hj => by
        rw [addr_add]
        rw [List.getElem?_map] at hj
        obtain ⟨z, hz, rfl⟩ := Option.map_eq_some_iff.1 hj
        obtain ⟨hlt, rfl⟩ := List.getElem?_eq_some_iff.1 hz
        exact hcell j hlt)
      simp only [List.length_map] at hcs
      rw [hcs]
      simp [List.map_map, Function.comp_def]
  cases ad with
  | none =>
    have : l = [] := by
      apply Classical.byContradiction
      intro hne
      obtain ⟨b, o, hb, _⟩ := hr hne
      cases hb
    subst this
    rfl
  | some ad =>
    rw [run_bytesToString w' ad l.length c _ (hcs ad rfl), foldl_push_bytes]
    simp [List.map_map, Function.comp_def, ByteArray.empty, ByteArray.emptyWithCapacity]
    rfl
end
structure OwnC (o : Option Nat) (n cap s : Nat) (cs : Array Value) (xs : List Value) : Prop where
  le : n ≤ cap
  size : cs.size = cap * s
  nil : o = none → cap = 0
  len : xs.length = n * s
  at_ : ∀ i, i < n * s → cs[i]? = xs[i]?
def own (o : Option Nat) (n cap : Nat) : Value := .slice (o.map fun b => ⟨b, 0, none⟩) n cap
theorem OwnC.start (s : Nat) : OwnC none 0 0 s #[] [] := ⟨Nat.le_refl _, by simp, fun _ => rfl, by simp, by intro i hi; simp at hi⟩
theorem OwnC.sl {w : World} {S : List Nat} {w0 : World} {L : List Own} (hH : Hp S w0 w L) (k : Nat) {o : Option Nat} {t n cap : Nat} {cs : Array Value} (hk : L[k]? = some (o, t, cs)) {l : List UInt8} (h : OwnC o n cap 1 cs (l.map V8)) : Sl w (own o n cap) l := by
  have hlen : l.length = n := by have := h.len; simpa using this
  subst hlen
  refine ⟨_, cap, rfl, h.le, fun hne => ?_⟩
  cases o with
  | none =>
    have := h.nil rfl; have := h.le
    exact absurd (List.eq_nil_of_length_eq_zero (by omega)) hne
  | some b =>
    refine ⟨b, 0, rfl, fun i hi => ?_⟩
    have := h.at_ i (by omega)
    refine (hH.blk k hk).cell ?_
    rw [Nat.zero_add, this]
    simp [hi]
def Src (P : Program) (w : World) (v : Value) (s m : Nat) (news : List Value) : Prop :=
  (∀ w', (Builtin.lenOf v).run P w' = .ok m w') ∧ news.length = m * s ∧ (∀ x ∈ news, x.oneCell' = true) ∧ ∀ w', Chg [] w w' → (Builtin.firstCells s m v).run P w' = .ok news.toArray w'
theorem Sl.src {P : Program} {w : World} {v : Value} {l : List UInt8} (h : Sl w v l) : Src P w v 1 l.length (l.map V8) := by
  refine ⟨?_, by simp, ?_, ?_⟩
  · obtain ⟨ad, c, rfl, _⟩ := h.len
    intro w'; rfl
  · intro x hx
    obtain ⟨z, _, rfl⟩ := List.mem_map.1 hx; rfl
  · intro w' hw
    obtain ⟨ad, c, rfl, hl, hr⟩ := h.chg hw
    cases ad with
    | none =>
      have : l = [] := by
        apply Classical.byContradiction
        intro hne
        obtain ⟨b, o, hb, _⟩ := hr hne
        cases hb
      subst this; rfl
    | some ad =>
      show (loadCells ad (l.length * 1)).run P w' = _
      rw [Nat.mul_one]
      by_cases hne : l = []
      · subst hne; rfl
      · obtain ⟨b, o, hb, hcell⟩ := hr hne
        cases hb
        have hcs := run_loadCells_list (P := P) w' ⟨b, o, none⟩ (l.map V8) (fun j v hj => by
          rw [addr_add]
          rw [List.getElem?_map] at hj
          obtain ⟨z, hz, rfl⟩ := Option.map_eq_some_iff.1 hj
          obtain ⟨hlt, rfl⟩ := List.getElem?_eq_some_iff.1 hz
          exact hcell j hlt)
        simp only [List.length_map] at hcs
        exact hcs
theorem src_string {P : Program} {w : World} (s : ByteArray) : Src P w (.string s) 1 s.size (s.data.toList.map V8) := by
  refine ⟨fun w' => rfl, by simp, ?_, fun w' _ => ?_⟩
  · intro x hx
    obtain ⟨z, _, rfl⟩ := List.mem_map.1 hx; rfl
  · have e : s.extract 0 s.size = s := by simp
    simp only [Builtin.firstCells, e]
    show Result.ok _ w' = _
    congr 1
    apply Array.ext'
    simp
section
variable {P : Program} {ops : List Oper} {Q : Exit → Act → World → Prop} {r : List PStep} {a : Act} {w : World} {i : Nat} {d : Option Tmp} {ty : TypeId} {pos : String} {af : Array Edge} {g : Option (Nat × Bool)} {x y : Operand} {t t' T : TypeId}
  {S : List Nat} {w0 : World} {L : List Own}
def bytesOf (P : Program) (t : TypeId) : Option Nat := (P.info? t).map (·.bytes)
theorem own_first {P : Program} {w : World} {S : List Nat} {w0 : World} {L : List Own} (hH : Hp S w0 w L) (k : Nat) {o : Option Nat} {e n cap s : Nat} {cs : Array Value} {xs : List Value} (hk : L[k]? = some (o, e, cs)) (hO : OwnC o n cap s cs xs) :
    (Builtin.firstCells s n (own o n cap)).run P w = .ok xs.toArray w := by
  cases o with
  | none =>
    have h0 := hO.nil rfl; have := hO.le
    have hn : n = 0 := by omega
    subst hn
    have : xs = [] := List.eq_nil_of_length_eq_zero (by have := hO.len; simpa using this)
    subst this; rfl
  | some b =>
    show (loadCells ⟨b, 0, none⟩ (n * s)).run P w = _
    have hcs := run_loadCells_list (P := P) w ⟨b, 0, none⟩ xs (fun j v hj => by
      rw [addr_add, Nat.zero_add]
      have hlt : j < n * s := by have := (List.getElem?_eq_some_iff.1 hj).1; have := hO.len; omega
      exact (hH.blk k hk).cell ((hO.at_ j hlt).trans hj))
    rwa [hO.len] at hcs
theorem plan_append (k : Nat) {dst : Tmp} {o : Option Nat} {n cap s bts m e : Nat} {cs zc : Array Value} {xs news : List Value} {D : TypeDesc} {vy : Value}
    (ho : ops[i]? = some ⟨some dst, .call ⟨.builtin .append, #[x, y], #[t, t']⟩, ty, pos, af, g⟩) (hg : Region.wanted ⟨some dst, .call ⟨.builtin .append, #[x, y], #[t, t']⟩, ty, pos, af, g⟩ (yielded ops.toArray a.tmps) = true)
    (hH : Hp S w0 w L) (hk : L[k]? = some (o, e, cs)) (hO : OwnC o n cap s cs xs) (hsrc : ∀ w1, Hp S w0 w1 L → Src P w1 vy s m news) (hx : a.eval x = own o n cap) (hy : a.eval y = vy) (hu : P.underlying t = some (.slice e)) (hu' : P.underlying t' = some D) (hD : (∃ e2, D = .slice e2) ∨ D = .string)
    (hs : szc P e = some s) (hb : bytesOf P e = some bts) (hz : zeroC P e = some zc) (hzs : zc.size = s) (hbd : (n + m) * bts ≤ 140737488355328) (hbd' : n + m < 9223372036854775808)
    (h : ∀ o' cap' cs' w', OwnC o' (n + m) cap' s cs' (xs ++ news) → Hp S w0 w' (L.set k (o', e, cs')) → wpPlan P ops.toArray Q r (a.put (some dst) (own o' (n + m) cap')) w') : wpPlan P ops.toArray Q (.e i :: r) a w := by
  refine plan_ev hH ho hg fun w hH => ?_
  obtain ⟨hlen, hnl, hone, hfirst⟩ := hsrc w hH
  have hbts : ∃ inf, P.info? e = some inf ∧ inf.bytes = bts ∧ inf.size = s ∧ ∃ z, inf.zero = some z ∧ z.cells = zc := by
    unfold bytesOf at hb
    obtain ⟨inf, hi, rfl⟩ := Option.map_eq_some_iff.1 hb
    unfold szc at hs
    rw [hi] at hs
    unfold zeroC at hz
    rw [hi] at hz
    obtain ⟨z, hz1, rfl⟩ := Option.map_eq_some_iff.1 hz
    exact ⟨inf, hi, rfl, by simpa using hs, z, by simpa using hz1, rfl⟩
  obtain ⟨inf, hinf, hib, his, z, hiz, hzc⟩ := hbts
  subst his
  have hle := hO.le
  have hexec : ∀ v w', (Builtin.append_ #[t, t'] ty #[own o n cap, vy]).run P w = .ok v w' → (execOp a.eval ⟨some dst, .call ⟨.builtin .append, #[x, y], #[t, t']⟩, ty, pos, af, g⟩).run P w = .ok (.value v) w' := by
    intro v w' hr
    simp only [execOp, resolve, List.map_toArray, List.map_cons, List.map_nil, hx, hy, invoke, builtin, Sem.run_bind, Sem.run_pure, Result.andThen_ok, hr]
  by_cases hroom : n + m ≤ cap
  · 
    have hsz : n * inf.size + news.length ≤ cs.size := by
      rw [hO.size, hnl, ← Nat.add_mul]; exact Nat.mul_le_mul_right _ hroom
    have hown : OwnC o (n + m) cap inf.size (splice cs (n * inf.size) news.toArray) (xs ++ news) := by
      refine ⟨hroom, by rw [splice_size (by simpa using hsz), hO.size], hO.nil, by rw [List.length_append, hO.len, hnl, Nat.add_mul], fun j hj => ?_⟩
      rw [Nat.add_mul] at hj
      rw [splice_get (by simpa using hsz)]
      simp only [List.size_toArray]
      by_cases hjn : j < n * inf.size
      · rw [if_neg (by omega), List.getElem?_append_left (by rw [hO.len]; exact hjn)]; exact hO.at_ j hjn
      · rw [if_pos ⟨by omega, by omega⟩, List.getElem?_append_right (by rw [hO.len]; omega), hO.len]; simp
    have hf := hfirst w (.refl _ _)
    cases o with
    | none =>
      have hc0 := hO.nil rfl
      have hm0 : m = 0 := by omega
      have hn0 : n = 0 := by omega
      subst hm0; subst hn0; subst hc0
      have hnews : news = [] := List.eq_nil_of_length_eq_zero (by simpa using hnl)
      subst hnews
      refine ⟨own none (0 + 0) 0, w, hexec _ _ ?_, h none 0 _ w hown ?_⟩
      · rcases hD with ⟨e2, rfl⟩ | rfl <;> simp [Builtin.append_, run_underlying hu, run_underlying hu', own, sizeOf, typeInfo, hinf, hlen, hroom, hf]
      · have hsp : splice cs (0 * inf.size) ([] : List Value).toArray = cs := by unfold splice; simp
        rw [hsp]
        exact hH.say k hk rfl
    | some b =>
      obtain ⟨w', hr, hB, hoth, hsz', e1, e2, e3⟩ := run_storeCells_blk (P := P) news 0 (n * inf.size) w cs (hH.blk k hk) (by simpa using hsz) hone
      refine ⟨own (some b) (n + m) cap, w', hexec _ _ ?_, h (some b) cap _ w' hown ?_⟩
      · rcases hD with ⟨e2, rfl⟩ | rfl <;> simp [Builtin.append_, run_underlying hu, run_underlying hu', own, sizeOf, typeInfo, hinf, hlen, hroom, hf, addr_add, hr]
      · refine hH.put k hk ?_ (by simpa using hB) fun k' hk' _ => hoth k' hk'
        refine hH.chg.trans' (T := [b]) ⟨e1, e2, e3, by omega, fun k' hk' hn => hoth k' (by simpa using hn)⟩ ?_
        intro z' hz' hlt
        simp only [List.mem_singleton] at hz'
        subst hz'
        rcases hH.mine k hk with h1 | h1
        · omega
        · exact h1
  · 
    obtain ⟨c, hc, hch⟩ : ∃ c, n + m ≤ c ∧ (Question.appendCap (n + m) cap e).cut (w.tape w.drawn (.appendCap (n + m) cap e)) = c := ⟨_, by simp [Question.cut], rfl⟩
    have hfc : (Question.appendCap (n + m) cap e).forced = false := rfl
    have hd : Chg [] w w.drew := (Chg.refl _ _).drew
    have hf := hfirst w.drew hd
    have hfo := own_first (P := P) (hH.call hd) k hk hO
    have hfit := growslice_fits (bytes := inf.bytes) (show cap < n + m by omega) (by rw [hib]; exact hbd)
    have h48 : ¬ (281474976710656 < Builtin.nextslicecap (n + m) cap * inf.bytes) := by omega
    have h63 : ¬ (9223372036854775807 < ((n : Int) + (m : Int))) := by omega
    have hzl : (Builtin.zeroCells zc (c - (n + m))).size = (c - (n + m)) * zc.size := by simp [Builtin.zeroCells]
    refine ⟨own (some w.drew.heap.size) (n + m) c, w.drew.alloc (.cells (xs.toArray ++ news.toArray ++ Builtin.zeroCells zc (c - (n + m))) e), hexec _ _ ?_, h (some w.drew.heap.size) c (xs.toArray ++ news.toArray ++ Builtin.zeroCells zc (c - (n + m))) _ ⟨hc, ?_, (by intro h; cases h), by rw [List.length_append, hO.len, hnl, Nat.add_mul], fun j hj => ?_⟩ ?_⟩
    · rcases hD with ⟨e2, rfl⟩ | rfl <;> simp [Builtin.append_, run_underlying hu, run_underlying hu', own, sizeOf, typeInfo, zeroValue, hinf, hiz, hlen, hroom, h63, h48, hfc, hch, hzc, newRow]
      all_goals (simp only [own] at hfo; rw [hfo]; simp only [Result.andThen_ok]; rw [hf]; simp; congr 2; apply Array.ext'; simp)
    · simp only [Array.size_append, List.size_toArray, hzl, hO.len, hnl, hzs]
      rw [← Nat.add_mul, ← Nat.add_mul]; congr 1; omega
    · have : j < (xs ++ news).length := by rw [List.length_append, hO.len, hnl, ← Nat.add_mul]; exact hj
      rw [Array.getElem?_append_left (by simpa using this)]
      simp
    · refine (hH.call hd).turn k hk _ ?_ ?_ ?_ ?_
      · exact hH.chg.trans' (T := []) (hd.alloc _) (by simp)
      · intro b hb'
        cases hb'
        exact ⟨.inl (by have := hH.chg.size; exact this), Blk.new _ _ _⟩
      · intro b hb'; cases hb'; exact .inr (Nat.le_refl _)
      · intro k' _ hlt
        exact RowKit.Below.heap_alloc _ _ _ hlt
theorem plan_make {dst : Tmp} {e n c s bts : Nat} {zc : Array Value} {k k' : IntKind} (ho : ops[i]? = some ⟨some dst, .makeSlice t x y, ty, pos, af, g⟩) (hg : Region.wanted ⟨some dst, .makeSlice t x y, ty, pos, af, g⟩ (yielded ops.toArray a.tmps) = true)
    (hH : Hp S w0 w L) (hx : a.eval x = .int k (n : Int)) (hy : a.eval y = .int k' (c : Int)) (hu : P.underlying t = some (.slice e)) (hs : szc P e = some s) (hb : bytesOf P e = some bts) (hz : zeroC P e = some zc) (hzs : zc.size = s)
    (hnc : n ≤ c) (hbd : bts * c ≤ 281474976710656) (hc : c < 9223372036854775808)
    (h : ∀ b w', Hp S w0 w' (L ++ [(some b, e, madeCells zc (c * s))]) → wpPlan P ops.toArray Q r (a.put (some dst) (own (some b) n c)) w') : wpPlan P ops.toArray Q (.x i :: r) a w := by
  refine plan_xv hH ho hg fun w hH => ⟨own (some w.heap.size) n c, w.alloc (.cells (madeCells zc (c * s)) e), ?_, (Chg.refl _ _).alloc _, h _ _ (hH.alloc e _)⟩
  unfold bytesOf at hb
  obtain ⟨inf, hi, rfl⟩ := Option.map_eq_some_iff.1 hb
  unfold szc at hs
  rw [hi] at hs
  unfold zeroC at hz
  rw [hi] at hz
  obtain ⟨z, hz1, rfl⟩ := Option.map_eq_some_iff.1 hz
  have hsz : inf.size = s := by simpa using hs
  have hbd' : (inf.bytes : Int) * c ≤ 281474976710656 := by
    have e : ((inf.bytes * c : Nat) : Int) = (inf.bytes : Int) * c := by simp
    omega
  have := run_make w t e inf z hu hi (by simpa using hz1) k k' n c (by omega) (by omega) hbd' (by omega)
  simp only [execOp, hx, hy, Sem.run_bind, this, Result.andThen_ok]
  rw [hsz]
  rfl
theorem made_arr8 {n : Nat} : madeCells #[V8 0] n = arr8 n fun _ => 0 := by
  refine tabV_ext (size_madeCells _ _) fun i hi => ?_
  simp [madeCells, hi, Nat.mod_one]
theorem OwnC.made0 {b c s : Nat} {cs : Array Value} (h : cs.size = c * s) : OwnC (some b) 0 c s cs [] := ⟨Nat.zero_le _, h, (by intro h; cases h), by simp, by intro i hi; simp at hi⟩
theorem OwnC.made {b n : Nat} {f : Nat → UInt8} : OwnC (some b) n n 1 (arr8 n f) (((List.range n).map f).map V8) :=
  ⟨Nat.le_refl _, by simp, (by intro h; cases h), by simp, fun i hi => by rw [Nat.mul_one] at hi; rw [arr8_get hi]; simp [hi]⟩
theorem OwnC.of_bytes {b n : Nat} {l : List UInt8} (h : l.length = n) : OwnC (some b) n n 1 (bytes l) (l.map V8) :=
  ⟨Nat.le_refl _, by simp [h], (by intro h; cases h), by simp [h], fun i hi => by rw [bytes_get]; simp⟩
theorem plan_buildSlice {dst : Tmp} {e n : Nat} {cs : Array Value} {parts : List (Nat × Operand)} {vs : List (Nat × Value)} (ho : ops[i]? = some ⟨some dst, .buildSlice t n parts.toArray, ty, pos, af, g⟩) (hg : Region.wanted ⟨some dst, .buildSlice t n parts.toArray, ty, pos, af, g⟩ (yielded ops.toArray a.tmps) = true)
    (hH : Hp S w0 w L) (hu : P.underlying t = some (.slice e)) (hv : (parts.map fun p => (p.1, a.eval p.2)) = vs)
    (hrun : ∀ w, (Instr.buildSlice t n vs.toArray).run P w = .ok (.slice (some ⟨w.heap.size, 0, none⟩) n n) (w.alloc (.cells cs e)))
    (h : ∀ b w', Hp S w0 w' (L ++ [(some b, e, cs)]) → wpPlan P ops.toArray Q r (a.put (some dst) (own (some b) n n)) w') : wpPlan P ops.toArray Q (.x i :: r) a w := by
  refine plan_xv hH ho hg fun w hH => ⟨own (some w.heap.size) n n, w.alloc (.cells cs e), ?_, (Chg.refl _ _).alloc _, h _ _ (hH.alloc e _)⟩
  have hv' : (parts.toArray.map fun (p : Nat × Operand) => (p.1, a.eval p.2)) = vs.toArray := by rw [← hv]; simp
  simp only [execOp, Sem.run_bind]
  rw [show (parts.toArray.map fun x => match x with | (i, x) => (i, a.eval x)) = vs.toArray from hv', hrun w]
  rfl
theorem plan_mark (k : Nat) {dst : Tmp} {b n c e T : Nat} {cs : Array Value} (ho : ops[i]? = some ⟨some dst, .convert t t x, ty, pos, af, g⟩) (hg : Region.wanted ⟨some dst, .convert t t x, ty, pos, af, g⟩ (yielded ops.toArray a.tmps) = true)
    (hH : Hp S w0 w L) (hk : L[k]? = some (some b, T, cs)) (hx : a.eval x = own (some b) n c) (hu : P.underlying t = some (.slice e)) (he : P.underlying e = some (.int .u8))
    (h : ∀ w', Hp S w0 w' (L.set k (some b, T, cs)) → wpPlan P ops.toArray Q r (a.put (some dst) (own (some b) n c)) w') : wpPlan P ops.toArray Q (.e i :: r) a w := by
  refine plan_ev hH ho hg fun w hH => ⟨own (some b) n c, w.freeze ⟨b, cs.size, none⟩ 1, ?_, h _ (hH.mark k hk)⟩
  obtain ⟨fr, hb, _⟩ := hH.blk k hk
  have hsh : w.shape? b = some (T, cs.size) := by simp [World.shape?, hb]
  simp only [execOp, hx]
  simp [own, convert, run_underlying hu, run_underlying he, markStringish, hsh]
theorem plan_copy (k : Nat) {e b o dl dc m : Nat} {f : Nat → UInt8} {l : List UInt8} {vy : Value} {dst : Option Tmp}
    (ho : ops[i]? = some ⟨dst, .call ⟨.builtin .copy, #[x, y], #[t, t']⟩, ty, pos, af, g⟩) (hg : Region.wanted ⟨dst, .call ⟨.builtin .copy, #[x, y], #[t, t']⟩, ty, pos, af, g⟩ (yielded ops.toArray a.tmps) = true)
    (hH : Hp S w0 w L) (hk : L[k]? = some (some b, T, arr8 m f)) (hsrc : ∀ w1, Hp S w0 w1 L → (∀ w', (Builtin.lenOf vy).run P w' = .ok l.length w') ∧ ∀ n, n ≤ l.length → (Builtin.firstCells 1 n vy).run P w1 = .ok (bytes (l.take n)) w1)
    (hx : a.eval x = .slice (some ⟨b, o, none⟩) dl dc) (hy : a.eval y = vy) (hu : P.underlying t = some (.slice e)) (hs : szc P e = some 1) (hfit : o + dl ≤ m)
    (h : ∀ w', Hp S w0 w' (L.set k (some b, T, arr8 m fun j => if o ≤ j ∧ j < o + min l.length dl then l.getD (j - o) 0 else f j)) → wpPlan P ops.toArray Q r (a.put dst (I64 (min l.length dl : Nat))) w') : wpPlan P ops.toArray Q (.e i :: r) a w := by
  refine plan_ev hH ho hg fun w hH => ?_
  obtain ⟨hlen, hfirst⟩ := hsrc w hH
  have hf := hfirst (min l.length dl) (Nat.min_le_left _ _)
  have hl2 : (bytes (l.take (min l.length dl))).toList.length = min l.length dl := by simp [bytes]
  obtain ⟨w', hr, hB, hoth, hsz, e1, e2, e3⟩ := run_storeCells_blk (P := P) (bytes (l.take (min l.length dl))).toList 0 o w _ (hH.blk k hk) (by rw [hl2]; simp; omega) (by
    intro v hv
    obtain ⟨z, _, rfl⟩ := List.mem_map.1 (show v ∈ (l.take (min l.length dl)).map V8 from hv); rfl)
  refine ⟨I64 (min l.length dl : Nat), w', ?_, h w' ?_⟩
  · simp only [execOp, resolve, List.map_toArray, List.map_cons, List.map_nil, hx, hy, invoke, builtin, Sem.run_bind, Sem.run_pure, Result.andThen_ok]
    have : (Builtin.copy_ #[t, t'] ty #[.slice (some ⟨b, o, none⟩) dl dc, vy]).run P w = .ok (I64 (min l.length dl : Nat)) w' := by
      simp only [Builtin.copy_]
      simp [run_underlying hu, hlen, run_sizeOf hs]
      have hf' : (Builtin.firstCells 1 (min l.length dl) vy).run P w = .ok (bytes (l.take (min l.length dl))) w := hf
      rw [show Nat.min l.length dl = min l.length dl from rfl, hf']
      simp [hr, goInt]
    rw [this]; rfl
  · refine hH.put k hk ?_ ?_ fun k' hk' _ => hoth k' hk'
    · refine hH.chg.trans' (T := [b]) ⟨e1, e2, e3, by omega, fun k' hk' hn => hoth k' (by simpa using hn)⟩ ?_
      intro z' hz' hlt
      simp only [List.mem_singleton] at hz'
      subst hz'
      rcases hH.mine k hk with h1 | h1
      · omega
      · exact h1
    · have hsp : splice (arr8 m f) (o + 0) (bytes (l.take (min l.length dl))).toList.toArray = arr8 m fun j => if o ≤ j ∧ j < o + min l.length dl then l.getD (j - o) 0 else f j := by
        refine tabV_ext (by rw [splice_size (by simp; omega)]; simp) fun j hj => ?_
        rw [splice_get (by simp; omega)]
        simp only [Nat.add_zero, Array.toArray_toList, bytes_size, List.length_take]
        by_cases hc : o ≤ j ∧ j < o + min (min l.length dl) l.length
        · rw [if_pos hc, if_pos ⟨hc.1, by omega⟩, bytes_get, List.getElem?_take, if_pos (by omega), List.getElem?_eq_getElem (by omega)]
          simp [List.getD, show j - o < l.length by omega]
        · rw [if_neg hc, if_neg (by omega), arr8_get hj]
      rw [← hsp]; exact hB
theorem Sl.csrc {v : Value} {l : List UInt8} (h : Sl w v l) : (∀ w', (Builtin.lenOf v).run P w' = .ok l.length w') ∧ ∀ n, n ≤ l.length → (Builtin.firstCells 1 n v).run P w = .ok (bytes (l.take n)) w := by
  refine ⟨(h.src (P := P)).1, fun n hn => ?_⟩
  have := ((h.cuth hn).src (P := P)).2.2.2 w (.refl _ _)
  obtain ⟨ad, c, rfl, hc⟩ := h.len
  have e : slcut (.slice ad l.length c) 0 n = .slice ad n c := by simp [slcut, cutA_full]
  rw [e] at this
  have hl : (l.take n).length = n := by simp; omega
  rw [hl] at this
  cases ad <;> exact this
end
end Go.Proofs.YtdkjdioccpoacaaDoor
set_option linter.unusedSimpArgs false
set_option linter.unusedVariables false
namespace Go.Proofs.YtdkjdioccpoacaaDoor
open Go
theorem pr_build {P : Program} {a : Act} {d : Option Tmp} {ty : TypeId} {pos : String} {af : Array Edge} {g : Option (Nat × Bool)} {t : TypeId} {parts : List (Nat × Operand)} {vs : List (Nat × Value)} {v : Value}
    (hv : (parts.map fun p => (p.1, a.eval p.2)) = vs) (hrun : ∀ w, (Instr.build t vs.toArray).run P w = .ok v w) : PRun P ⟨d, .build t parts.toArray, ty, pos, af, g⟩ a v := fun w => by
  have hv' : (parts.toArray.map fun (p : Nat × Operand) => (p.1, a.eval p.2)) = vs.toArray := by rw [← hv]; simp
  simp only [execOp, Sem.run_bind]
  rw [show (parts.toArray.map fun x => match x with | (i, x) => (i, a.eval x)) = vs.toArray from hv', hrun w]
  rfl
section
variable {P : Program} {t e : TypeId} {x y : Operand}
theorem run_eqItems_arr8 {k : IntKind} (he : P.underlying e = some (.int k)) (hc : P.cellsOf e = 1) (d n : Nat) (f g : Nat → UInt8) (w : World) : ∀ (is : List Nat), (∀ i ∈ is, i < n) →
    (Op.eqItems (d + 1) e (P.cellsOf e) (arr8 n f) (arr8 n g) is).run P w = .ok (is.all fun i => f i == g i) w
  | [], _ => rfl
  | i :: is, h => by
    have hp : P.plainKey e = true := by unfold Program.plainKey; rw [he]
    have hi : i < n := h i (by simp)
    rw [hc]
    unfold Op.eqItems
    rw [Nat.mul_one]
    simp only [Sem.run_bind, run_part_plain w hp (arr8_get hi), Result.andThen_ok]
    rw [run_equalIn_int w d e .u8 k _ _ he]
    simp only [Result.andThen_ok, List.all_cons]
    have e1 : (((f i).toNat : Int) == ((g i).toNat : Int)) = (f i == g i) := by
      rw [Bool.eq_iff_iff]; simp only [beq_iff_eq]
      constructor
      · intro h; exact UInt8.toNat_inj.1 (by omega)
      · intro h; rw [h]
    rw [e1]
    have ih := run_eqItems_arr8 he hc d n f g w is fun j hj => h j (by simp [hj])
    rw [hc] at ih
    cases f i == g i
    · rfl
    · simpa using ih
theorem run_equal_arr8 {k : IntKind} {n : Nat} {f g : Nat → UInt8} (hu : P.underlying t = some (.array n e)) (he : P.underlying e = some (.int k)) (hs : szc P e = some 1) (d : Nat) (w : World) :
    (Op.equalIn (d + 2) t (.agg (arr8 n f)) (.agg (arr8 n g))).run P w = .ok ((List.range n).all fun i => f i == g i) w := by
  have hc : P.cellsOf e = 1 := by unfold szc at hs; unfold Program.cellsOf; rw [hs]; rfl
  have hi : ∃ i, P.info? e = some i := by
    unfold szc at hs
    cases h : P.info? e with
    | none => rw [h] at hs; cases hs
    | some i => exact ⟨i, rfl⟩
  obtain ⟨i, hi⟩ := hi
  rw [run_equalIn_array w (d + 1) _ _ hu hi]
  exact run_eqItems_arr8 he hc d n f g w _ fun j hj => List.mem_range.1 hj
theorem bin_eql_arr8 {k : IntKind} {n : Nat} {f g : Nat → UInt8} (hu : P.underlying t = some (.array n e)) (he : P.underlying e = some (.int k)) (hs : szc P e = some 1) (hg : P.eqGuardType P.depth t = false) :
    Bin P .eql t x y (.agg (arr8 n f)) (.agg (arr8 n g)) (BV ((List.range n).all fun i => f i == g i)) := fun w => by
  have h0 := run_eqGuard_agg w .eql t x y (arr8 n f) (arr8 n g) hg
  have h1 := run_equal_arr8 (f := f) (g := g) hu he hs 9998 w
  rw [Sem.run_bind, h0]
  simp only [Result.andThen_ok]
  rw [run_eql_struct]
  show (Sem.run P (Op.equalIn (9998 + 2) t _ _) w).andThen _ = _
  rw [h1]; rfl
theorem bin_neq_arr8 {k : IntKind} {n : Nat} {f g : Nat → UInt8} (hu : P.underlying t = some (.array n e)) (he : P.underlying e = some (.int k)) (hs : szc P e = some 1) (hg : P.eqGuardType P.depth t = false) :
    Bin P .neq t x y (.agg (arr8 n f)) (.agg (arr8 n g)) (BV (!(List.range n).all fun i => f i == g i)) := fun w => by
  have h0 := run_eqGuard_agg w .neq t x y (arr8 n f) (arr8 n g) hg
  have h1 := run_equal_arr8 (f := f) (g := g) hu he hs 9998 w
  rw [Sem.run_bind, h0]
  simp only [Result.andThen_ok]
  rw [run_neq_struct]
  show (Sem.run P (Op.equalIn (9998 + 2) t _ _) w).andThen _ = _
  rw [h1]; rfl
end
end Go.Proofs.YtdkjdioccpoacaaDoor
set_option linter.unusedSimpArgs false
set_option linter.unusedVariables false
set_option maxRecDepth 100000
set_option maxHeartbeats 4000000
namespace Go.Proofs.YtdkjdioccpoacaaDoor
open Go
open List (getD_cons_zero getD_cons_succ set_cons_zero set_cons_succ)
theorem sz2 : szc Tryd.prog 2 = some 1 := by kernel_rfl
theorem sz3 : szc Tryd.prog 3 = some 1 := by kernel_rfl
theorem sz5 : szc Tryd.prog 5 = some 1 := by kernel_rfl
theorem sz9 : szc Tryd.prog 9 = some 1 := by kernel_rfl
theorem sz22 : szc Tryd.prog 22 = some 32 := by kernel_rfl
theorem sz29 : szc Tryd.prog 29 = some 1 := by kernel_rfl
theorem sz33 : szc Tryd.prog 33 = some 3 := by kernel_rfl
theorem sz45 : szc Tryd.prog 45 = some 1 := by kernel_rfl
theorem sz102 : szc Tryd.prog 102 = some 5 := by kernel_rfl
theorem sz104 : szc Tryd.prog 104 = some 5 := by kernel_rfl
theorem sz108 : szc Tryd.prog 108 = some 10 := by kernel_rfl
theorem sz117 : szc Tryd.prog 117 = some 1 := by kernel_rfl
theorem sz118 : szc Tryd.prog 118 = some 8 := by kernel_rfl
theorem sz123 : szc Tryd.prog 123 = some 1 := by kernel_rfl
theorem sz128 : szc Tryd.prog 128 = some 2 := by kernel_rfl
theorem sz130 : szc Tryd.prog 130 = some 16 := by kernel_rfl
theorem sz158 : szc Tryd.prog 158 = some 64 := by kernel_rfl
theorem sz160 : szc Tryd.prog 160 = some 64 := by kernel_rfl
theorem sz161 : szc Tryd.prog 161 = some 176 := by kernel_rfl
theorem sz165 : szc Tryd.prog 165 = some 256 := by kernel_rfl
theorem zc22 : zeroC Tryd.prog 22 = some (arr8 32 fun _ => 0) := by kernel_rfl
theorem zc102 : zeroC Tryd.prog 102 = some (arr64 5 fun _ => 0) := by kernel_rfl
theorem zc118 : zeroC Tryd.prog 118 = some (arr32 8 fun _ => 0) := by kernel_rfl
theorem zc130 : zeroC Tryd.prog 130 = some (arr8 16 fun _ => 0) := by kernel_rfl
theorem zc158 : zeroC Tryd.prog 158 = some (arr32 64 fun _ => 0) := by kernel_rfl
theorem zc160 : zeroC Tryd.prog 160 = some (arr8 64 fun _ => 0) := by kernel_rfl
theorem zc165 : zeroC Tryd.prog 165 = some (arr8 256 fun _ => 0) := by kernel_rfl
theorem ze5 : zeroC Tryd.prog 5 = some #[V8 0] := by kernel_rfl
theorem bz5 : bytesOf Tryd.prog 5 = some 1 := by kernel_rfl
theorem ba118 (x0 x1 x2 x3 x4 x5 x6 x7 : UInt32) : ∀ w, (Instr.build 118 [(0, V32 x0), (1, V32 x1), (2, V32 x2), (3, V32 x3), (4, V32 x4), (5, V32 x5), (6, V32 x6), (7, V32 x7)].toArray).run Tryd.prog w = .ok (.agg (arr32 8 fun i => [x0, x1, x2, x3, x4, x5, x6, x7].getD i 0)) w := fun w => by kernel_rfl
theorem bs0 : ∀ w, (Instr.buildSlice 29 0 [].toArray).run Tryd.prog w = .ok (.slice (some ⟨w.heap.size, 0, none⟩) 0 0) (w.alloc (.cells (bytes []) 5)) := fun w => by kernel_rfl
theorem bs1 (x0 : UInt8) : ∀ w, (Instr.buildSlice 29 1 [(0, V8 x0)].toArray).run Tryd.prog w = .ok (.slice (some ⟨w.heap.size, 0, none⟩) 1 1) (w.alloc (.cells (bytes [x0]) 5)) := fun w => by kernel_rfl
theorem bs3 (x0 x1 x2 : UInt8) : ∀ w, (Instr.buildSlice 29 3 [(0, V8 x0), (1, V8 x1), (2, V8 x2)].toArray).run Tryd.prog w = .ok (.slice (some ⟨w.heap.size, 0, none⟩) 3 3) (w.alloc (.cells (bytes [x0, x1, x2]) 5)) := fun w => by kernel_rfl
theorem bs4 (x0 x1 x2 x3 : UInt8) : ∀ w, (Instr.buildSlice 29 4 [(0, V8 x0), (1, V8 x1), (2, V8 x2), (3, V8 x3)].toArray).run Tryd.prog w = .ok (.slice (some ⟨w.heap.size, 0, none⟩) 4 4) (w.alloc (.cells (bytes [x0, x1, x2, x3]) 5)) := fun w => by kernel_rfl
theorem bs7 (x0 x1 x2 x3 x4 x5 x6 : UInt8) : ∀ w, (Instr.buildSlice 29 7 [(0, V8 x0), (1, V8 x1), (2, V8 x2), (3, V8 x3), (4, V8 x4), (5, V8 x5), (6, V8 x6)].toArray).run Tryd.prog w = .ok (.slice (some ⟨w.heap.size, 0, none⟩) 7 7) (w.alloc (.cells (bytes [x0, x1, x2, x3, x4, x5, x6]) 5)) := fun w => by kernel_rfl
theorem bs10 (x0 x1 x2 x3 x4 x5 x6 x7 x8 x9 : UInt8) : ∀ w, (Instr.buildSlice 29 10 [(0, V8 x0), (1, V8 x1), (2, V8 x2), (3, V8 x3), (4, V8 x4), (5, V8 x5), (6, V8 x6), (7, V8 x7), (8, V8 x8), (9, V8 x9)].toArray).run Tryd.prog w = .ok (.slice (some ⟨w.heap.size, 0, none⟩) 10 10) (w.alloc (.cells (bytes [x0, x1, x2, x3, x4, x5, x6, x7, x8, x9]) 5)) := fun w => by kernel_rfl
theorem cf5 : Callable Tryd.prog 5 := ⟨Tryd.f5, Tryd.func5, by kernel_rfl, by kernel_rfl⟩
theorem cf6 : Callable Tryd.prog 6 := ⟨Tryd.f6, Tryd.func6, by kernel_rfl, by kernel_rfl⟩
theorem cf7 : Callable Tryd.prog 7 := ⟨Tryd.f7, Tryd.func7, by kernel_rfl, by kernel_rfl⟩
theorem cf8 : Callable Tryd.prog 8 := ⟨Tryd.f8, Tryd.func8, by kernel_rfl, by kernel_rfl⟩
theorem cf9 : Callable Tryd.prog 9 := ⟨Tryd.f9, Tryd.func9, by kernel_rfl, by kernel_rfl⟩
theorem cf10 : Callable Tryd.prog 10 := ⟨Tryd.f10, Tryd.func10, by kernel_rfl, by kernel_rfl⟩
theorem cf11 : Callable Tryd.prog 11 := ⟨Tryd.f11, Tryd.func11, by kernel_rfl, by kernel_rfl⟩
theorem cf12 : Callable Tryd.prog 12 := ⟨Tryd.f12, Tryd.func12, by kernel_rfl, by kernel_rfl⟩
theorem cf20 : Callable Tryd.prog 20 := ⟨Tryd.f20, Tryd.func20, by kernel_rfl, by kernel_rfl⟩
theorem cf21 : Callable Tryd.prog 21 := ⟨Tryd.f21, Tryd.func21, by kernel_rfl, by kernel_rfl⟩
theorem cf22 : Callable Tryd.prog 22 := ⟨Tryd.f22, Tryd.func22, by kernel_rfl, by kernel_rfl⟩
theorem cf23 : Callable Tryd.prog 23 := ⟨Tryd.f23, Tryd.func23, by kernel_rfl, by kernel_rfl⟩
theorem cf24 : Callable Tryd.prog 24 := ⟨Tryd.f24, Tryd.func24, by kernel_rfl, by kernel_rfl⟩
theorem cf25 : Callable Tryd.prog 25 := ⟨Tryd.f25, Tryd.func25, by kernel_rfl, by kernel_rfl⟩
theorem cf26 : Callable Tryd.prog 26 := ⟨Tryd.f26, Tryd.func26, by kernel_rfl, by kernel_rfl⟩
theorem cf27 : Callable Tryd.prog 27 := ⟨Tryd.f27, Tryd.func27, by kernel_rfl, by kernel_rfl⟩
theorem cf28 : Callable Tryd.prog 28 := ⟨Tryd.f28, Tryd.func28, by kernel_rfl, by kernel_rfl⟩
theorem cf29 : Callable Tryd.prog 29 := ⟨Tryd.f29, Tryd.func29, by kernel_rfl, by kernel_rfl⟩
theorem cf30 : Callable Tryd.prog 30 := ⟨Tryd.f30, Tryd.func30, by kernel_rfl, by kernel_rfl⟩
theorem cf31 : Callable Tryd.prog 31 := ⟨Tryd.f31, Tryd.func31, by kernel_rfl, by kernel_rfl⟩
theorem cf33 : Callable Tryd.prog 33 := ⟨Tryd.f33, Tryd.func33, by kernel_rfl, by kernel_rfl⟩
theorem cf34 : Callable Tryd.prog 34 := ⟨Tryd.f34, Tryd.func34, by kernel_rfl, by kernel_rfl⟩
theorem cf35 : Callable Tryd.prog 35 := ⟨Tryd.f35, Tryd.func35, by kernel_rfl, by kernel_rfl⟩
theorem cf36 : Callable Tryd.prog 36 := ⟨Tryd.f36, Tryd.func36, by kernel_rfl, by kernel_rfl⟩
theorem cf45 : Callable Tryd.prog 45 := ⟨Tryd.f45, Tryd.func45, by kernel_rfl, by kernel_rfl⟩
theorem cf46 : Callable Tryd.prog 46 := ⟨Tryd.f46, Tryd.func46, by kernel_rfl, by kernel_rfl⟩
theorem cf48 : Callable Tryd.prog 48 := ⟨Tryd.f48, Tryd.func48, by kernel_rfl, by kernel_rfl⟩
theorem cf49 : Callable Tryd.prog 49 := ⟨Tryd.f49, Tryd.func49, by kernel_rfl, by kernel_rfl⟩
theorem cf50 : Callable Tryd.prog 50 := ⟨Tryd.f50, Tryd.func50, by kernel_rfl, by kernel_rfl⟩
theorem cf51 : Callable Tryd.prog 51 := ⟨Tryd.f51, Tryd.func51, by kernel_rfl, by kernel_rfl⟩
theorem cf52 : Callable Tryd.prog 52 := ⟨Tryd.f52, Tryd.func52, by kernel_rfl, by kernel_rfl⟩
theorem cf53 : Callable Tryd.prog 53 := ⟨Tryd.f53, Tryd.func53, by kernel_rfl, by kernel_rfl⟩
theorem cf54 : Callable Tryd.prog 54 := ⟨Tryd.f54, Tryd.func54, by kernel_rfl, by kernel_rfl⟩
theorem cf55 : Callable Tryd.prog 55 := ⟨Tryd.f55, Tryd.func55, by kernel_rfl, by kernel_rfl⟩
theorem cf56 : Callable Tryd.prog 56 := ⟨Tryd.f56, Tryd.func56, by kernel_rfl, by kernel_rfl⟩
theorem cf57 : Callable Tryd.prog 57 := ⟨Tryd.f57, Tryd.func57, by kernel_rfl, by kernel_rfl⟩
theorem cf58 : Callable Tryd.prog 58 := ⟨Tryd.f58, Tryd.func58, by kernel_rfl, by kernel_rfl⟩
theorem cf59 : Callable Tryd.prog 59 := ⟨Tryd.f59, Tryd.func59, by kernel_rfl, by kernel_rfl⟩
theorem cf60 : Callable Tryd.prog 60 := ⟨Tryd.f60, Tryd.func60, by kernel_rfl, by kernel_rfl⟩
theorem cf61 : Callable Tryd.prog 61 := ⟨Tryd.f61, Tryd.func61, by kernel_rfl, by kernel_rfl⟩
theorem cf62 : Callable Tryd.prog 62 := ⟨Tryd.f62, Tryd.func62, by kernel_rfl, by kernel_rfl⟩
theorem cf63 : Callable Tryd.prog 63 := ⟨Tryd.f63, Tryd.func63, by kernel_rfl, by kernel_rfl⟩
theorem cf64 : Callable Tryd.prog 64 := ⟨Tryd.f64, Tryd.func64, by kernel_rfl, by kernel_rfl⟩
theorem cf65 : Callable Tryd.prog 65 := ⟨Tryd.f65, Tryd.func65, by kernel_rfl, by kernel_rfl⟩
theorem cf82 : Callable Tryd.prog 82 := ⟨Tryd.f82, Tryd.func82, by kernel_rfl, by kernel_rfl⟩
theorem cf83 : Callable Tryd.prog 83 := ⟨Tryd.f83, Tryd.func83, by kernel_rfl, by kernel_rfl⟩
theorem cf86 : Callable Tryd.prog 86 := ⟨Tryd.f86, Tryd.func86, by kernel_rfl, by kernel_rfl⟩
theorem cf88 : Callable Tryd.prog 88 := ⟨Tryd.f88, Tryd.func88, by kernel_rfl, by kernel_rfl⟩
theorem cf89 : Callable Tryd.prog 89 := ⟨Tryd.f89, Tryd.func89, by kernel_rfl, by kernel_rfl⟩
theorem cf90 : Callable Tryd.prog 90 := ⟨Tryd.f90, Tryd.func90, by kernel_rfl, by kernel_rfl⟩
theorem cf91 : Callable Tryd.prog 91 := ⟨Tryd.f91, Tryd.func91, by kernel_rfl, by kernel_rfl⟩
theorem cf92 : Callable Tryd.prog 92 := ⟨Tryd.f92, Tryd.func92, by kernel_rfl, by kernel_rfl⟩
theorem cf93 : Callable Tryd.prog 93 := ⟨Tryd.f93, Tryd.func93, by kernel_rfl, by kernel_rfl⟩
theorem cf94 : Callable Tryd.prog 94 := ⟨Tryd.f94, Tryd.func94, by kernel_rfl, by kernel_rfl⟩
theorem cf100 : Callable Tryd.prog 100 := ⟨Tryd.f100, Tryd.func100, by kernel_rfl, by kernel_rfl⟩
theorem cf101 : Callable Tryd.prog 101 := ⟨Tryd.f101, Tryd.func101, by kernel_rfl, by kernel_rfl⟩
end Go.Proofs.YtdkjdioccpoacaaDoor
set_option linter.unusedSimpArgs false
set_option linter.unusedVariables false
namespace Go.Proofs.YtdkjdioccpoacaaDoor
open Go
def arrB (n : Nat) (f : Nat → Bool) : Array Value := tabV n (fun i => BV (f i))
@[simp] theorem arrB_size (n : Nat) (f : Nat → Bool) : (arrB n f).size = n := by simp [arrB]
theorem arrB_set {n : Nat} {f : Nat → Bool} {k : Nat} {v : Bool} : (arrB n f).setIfInBounds k (BV v) = arrB n (upd f k v) := by
  unfold arrB; rw [tabV_set]; congr 1; funext i; unfold upd; split <;> rfl
theorem OwnC.setb {o : Option Nat} {n cap i : Nat} {cs : Array Value} {l : List UInt8} (h : OwnC o n cap 1 cs (l.map V8)) (hi : i < n) (v : UInt8) : OwnC o n cap 1 (cs.setIfInBounds i (V8 v)) ((l.set i v).map V8) where
  le := h.le
  size := by rw [Array.size_setIfInBounds]; exact h.size
  nil := h.nil
  len := by rw [List.length_map, List.length_set]; have := h.len; rwa [List.length_map] at this
  at_ j hj := by
    have hs := h.size
    have hle := h.le
    have hlen : l.length = n := by have := h.len; simpa using this
    rw [Array.getElem?_setIfInBounds, List.getElem?_map, List.getElem?_set]
    by_cases e : i = j
    · subst e
      rw [if_pos rfl, if_pos rfl, if_pos (by omega), if_pos (by omega)]; rfl
    · rw [if_neg e, if_neg e, h.at_ j hj, List.getElem?_map]
theorem Sl.head {w : World} {ad : Option Addr} {n c h : Nat} {l : List UInt8} (hs : Sl w (.slice ad n c) l) (hh : h ≤ l.length) : Sl w (.slice ad h c) (l.take h) := by
  have := hs.cuth hh
  simpa [slcut, cutA_full] using this
theorem Hp.callnew2 {S : List Nat} {w0 w w' : World} {L : List Own} (h : Hp S w0 w L) (hc : Chg [] w w') {b b' : Nat} {t t' : TypeId} {cs cs' : Array Value} (hb : Blk w' b t cs) (hn : w.heap.size ≤ b) (hb' : Blk w' b' t' cs') (hn' : w.heap.size ≤ b') (hne : b ≠ b') :
    Hp S w0 w' (L ++ [(some b, t, cs), (some b', t', cs')]) := by
  have h1 := h.callnew hc hb hn
  have h2 := h1.add (some b', t', cs') (fun x hx => by cases hx; exact ⟨.inl (Nat.le_trans h.chg.size hn'), hb'⟩) (fun x hx y hy hxy => by
    cases hy
    rcases List.mem_append.1 hx with hx | hx
    · have := h.lt hx hxy; omega
    · simp only [List.mem_singleton] at hx; subst hx; cases hxy; exact hne rfl)
  rwa [List.append_assoc] at h2
theorem Hp.name {S : List Nat} {w0 w : World} {L : List Own} (h : Hp S w0 w L) (i : Nat) {b : Option Nat} {t : TypeId} {cs : Array Value} (hi : L[i]? = some (b, t, cs)) : ∃ z, cs = z ∧ Hp S w0 w (L.set i (b, t, z)) := ⟨cs, rfl, h.say i hi rfl⟩
section
variable {P : Program} {ops : List Oper} {Q : Exit → Act → World → Prop} {r : List PStep} {a : Act} {w : World} {i : Nat} {d : Option Tmp} {ty : TypeId} {pos : String} {af : Array Edge} {g : Option (Nat × Bool)} {x y : Operand} {t t' T : TypeId}
  {S : List Nat} {w0 : World} {L : List Own}
theorem plan_storeO (k : Nat) {o : Option Nat} {n cap j : Nat} {cs : Array Value} {l : List UInt8} {v : UInt8} (ho : ops[i]? = some ⟨none, .store t x y, ty, pos, af, g⟩) (hg : Region.wanted ⟨none, .store t x y, ty, pos, af, g⟩ (yielded ops.toArray a.tmps) = true)
    (hH : Hp S w0 w L) (hx : a.eval x = PT (slb (own o n cap)) (slo (own o n cap) + j)) (hi : L[k]? = some (o, T, cs)) (hO : OwnC o n cap 1 cs (l.map V8)) (hy : a.eval y = V8 v) (hs : szc P t = some 1) (hj : j < n)
    (h : ∀ cs' w', OwnC o n cap 1 cs' ((l.set j v).map V8) → Hp S w0 w' (L.set k (o, T, cs')) → wpPlan P ops.toArray Q r a w') : wpPlan P ops.toArray Q (.e i :: r) a w := by
  cases o with
  | none => have := hO.nil rfl; have := hO.le; omega
  | some b =>
    refine plan_store1 k (o := 0 + j) ho hg hH hx hi hy rfl hs (by have := hO.size; have := hO.le; omega) fun w' hH' => ?_
    rw [Nat.zero_add] at hH'
    exact h _ w' (hO.setb hj v) hH'
theorem plan_sk {R : World → World → Prop} {o : Oper} (hH : Hp S w0 w L) (ho : ops[i]? = some o) (hg : Region.wanted o (yielded ops.toArray a.tmps) = true) (h : ∀ w1, Hp S w0 w1 L → ∃ w', (execOp a.eval o).run P w1 = .ok .skip w' ∧ R w1 w' ∧ wpPlan P ops.toArray Q r (a.put o.dst undef) w') : wpPlan P ops.toArray Q (.s i R :: r) a w := fun w1 hw => by
  obtain ⟨w', hr, hn⟩ := h w1 (hH.call hw)
  unfold wpOp
  simp only [at_list ho, hg, if_true]
  exact .inl (by unfold Oper.wp; rw [hr]; exact hn)
theorem plan_store1s (n : Nat) {D : List Nat} {b o : Nat} {cs : Array Value} {v : Value} (ho : ops[i]? = some ⟨none, .store t x y, ty, pos, af, g⟩) (hg : Region.wanted ⟨none, .store t x y, ty, pos, af, g⟩ (yielded ops.toArray a.tmps) = true)
    (hH : Hp S w0 w L) (hx : a.eval x = PT b o) (hi : L[n]? = some (some b, T, cs)) (hy : a.eval y = v) (h1 : v.oneCell' = true) (hs : szc P t = some 1) (hlt : o < cs.size) (hD : b ∈ D)
    (h : ∀ w', Hp S w0 w' (L.set n (some b, T, cs.setIfInBounds o v)) → wpPlan P ops.toArray Q r a w') : wpPlan P ops.toArray Q (.s i (Chg D) :: r) a w := by
  refine plan_sk hH ho hg fun w hH => ?_
  have hb := hH.blk n hi
  have hc : v.cells = #[v] := by cases v <;> simp_all [Value.cells, Value.oneCell']
  refine ⟨w.setCell ⟨b, o, none⟩ v, ?_, (Chg.refl D w).setCell (.inr hD) v, h _ (hH.store n hi o v)⟩
  have hst : (store (⟨b, o, none⟩ : Addr) v).run P w = .ok () (w.setCell ⟨b, o, none⟩ v) := by
    rw [run_store P w _ v _ h1, hb.cell (Array.getElem?_eq_getElem hlt)]
    simp [hb.free hlt]
  simp [execOp, hx, hy, Instr.storeAt, Instr.sureAddr, storeVar, run_sizeOf hs, hc, storeCells, Addr.add, hst]
theorem Hp.far {S : List Nat} {w0 w w' : World} {L : List Own} (h : Hp S w0 w L) (i : Nat) {D : List Nat} {b : Nat} {t : TypeId} {cs : Array Value} (hi : L[i]? = some (some b, t, cs)) (hc : Chg D w w') (hD : b ∉ D) : Blk w' b t cs := hc.blk (h.blk i hi) hD
theorem qr_loadE {D : TypeDesc} {b o n : Nat} {cs : Array Value} (vs : Array Value) (hx : a.eval x = PT b o) (hb : Blk w b T cs) (hu : P.underlying t = some D) (hD : isAggD D = true) (hs : szc P t = some n) (hn : o + n ≤ cs.size) (he : cs.extract o (o + n) = vs) :
    QRun P ⟨d, .load t x, ty, pos, af, g⟩ a w (.agg vs) := by
  subst he
  exact qr_loadN hx hb hu hD hs hn
end
theorem ext2 (vs : List Value) (o : Nat) (a b : Value) (h : (vs.drop o).take 2 = [a, b]) : vs.toArray.extract o (o + 2) = #[a, b] := by
  rw [List.extract_toArray, List.extract_eq_take_drop, Nat.add_sub_cancel_left, h]
end Go.Proofs.YtdkjdioccpoacaaDoor
set_option linter.unusedSimpArgs false
set_option linter.unusedVariables false
namespace Go.Proofs.YtdkjdioccpoacaaDoor
open Go
def cat5 (f g : Nat → UInt64) : Nat → UInt64 := fun i => if i < 5 then f i else g (i - 5)
theorem arr64_extract {m n o : Nat} {f : Nat → UInt64} (h : o + n ≤ m) : (arr64 m f).extract o (o + n) = arr64 n fun j => f (o + j) := by
  refine tabV_ext (by simp; omega) fun i hi => ?_
  rw [Array.getElem?_extract, if_pos (by simp; omega), arr64_get (by omega)]
theorem cat5_a (f g : Nat → UInt64) : (arr64 10 (cat5 f g)).extract 0 (0 + 5) = arr64 5 f := by
  rw [arr64_extract (by decide)]
  exact arr64_congr fun i hi => by unfold cat5; rw [Nat.zero_add, if_pos hi]
theorem cat5_b (f g : Nat → UInt64) : (arr64 10 (cat5 f g)).extract 5 (5 + 5) = arr64 5 g := by
  rw [arr64_extract (by decide)]
  exact arr64_congr fun i hi => by unfold cat5; rw [if_neg (by omega), Nat.add_sub_cancel_left]
theorem spl5a (f g h : Nat → UInt64) : splice (arr64 10 (cat5 f g)) 0 (arr64 5 h) = arr64 10 (cat5 h g) := by
  have hs : 0 + (arr64 5 h).size ≤ (arr64 10 (cat5 f g)).size := by simp
  refine tabV_ext (by rw [splice_size hs]; simp) fun i hi => ?_
  rw [splice_get hs]
  by_cases h5 : i < 5
  · rw [if_pos (by simp; omega), Nat.sub_zero, arr64_get h5]
    simp only [cat5, if_pos h5]
  · rw [if_neg (by simp; omega), arr64_get hi]
    simp only [cat5, if_neg h5]
theorem spl5b (f g h : Nat → UInt64) : splice (arr64 10 (cat5 f g)) 5 (arr64 5 h) = arr64 10 (cat5 f h) := by
  have hs : 5 + (arr64 5 h).size ≤ (arr64 10 (cat5 f g)).size := by simp
  refine tabV_ext (by rw [splice_size hs]; simp) fun i hi => ?_
  rw [splice_get hs]
  by_cases h5 : i < 5
  · rw [if_neg (by simp; omega), arr64_get hi]
    simp only [cat5, if_pos h5]
  · rw [if_pos (by simp; omega), arr64_get (by omega)]
    simp only [cat5, if_neg h5]
section
variable {P : Program} {a : Act} {w : World} {d : Option Tmp} {ty : TypeId} {pos : String} {af : Array Edge} {g : Option (Nat × Bool)} {x y : Operand} {t T : TypeId} {D : TypeDesc} {b : Nat} {f h : Nat → UInt64}
theorem qr_load5a (hx : a.eval x = PT b 0) (hb : Blk w b T (arr64 10 (cat5 f h))) (hu : P.underlying t = some D) (hD : isAggD D = true) (hs : szc P t = some 5) : QRun P ⟨d, .load t x, ty, pos, af, g⟩ a w (.agg (arr64 5 f)) :=
  qr_loadE _ hx hb hu hD hs (by simp) (cat5_a f h)
theorem qr_load5b (hx : a.eval x = PT b 5) (hb : Blk w b T (arr64 10 (cat5 f h))) (hu : P.underlying t = some D) (hD : isAggD D = true) (hs : szc P t = some 5) : QRun P ⟨d, .load t x, ty, pos, af, g⟩ a w (.agg (arr64 5 h)) :=
  qr_loadE _ hx hb hu hD hs (by simp) (cat5_b f h)
theorem pr_compl64 {b : UInt64} (hx : a.eval x = V64 b) : PRun P ⟨d, .unOp .xor t x, ty, pos, af, g⟩ a (V64 (~~~b)) := fun w => by
  refine run_ok_value (w := w) ?_
  rw [hx]
  have h := bin_xor_u64 (P := P) (t := t) (x := x) (y := x) 18446744073709551615 b w
  rw [Sem.run_bind, run_eqGuard_int] at h
  rw [show ~~~b = 18446744073709551615 ^^^ b from UInt64.toBitVec_inj.1 (by rw [UInt64.toBitVec_not, UInt64.toBitVec_xor, BitVec.not_def]; rfl)]
  exact h
theorem qr_now {fn : FuncId} {args : List Operand} {ats : Array TypeId} {vs : List Value} {v : Value} (hr : ∀ w', (callFunc fn vs.toArray).run P w' = .ok (.value v) w') (hargs : args.map a.eval = vs) :
    QRun P ⟨d, .call ⟨.value (.func fn), args.toArray, ats⟩, ty, pos, af, g⟩ a w v := .of_l fun w' _ => by
  unfold LRun
  simp only [execOp, resolve, List.map_toArray, hargs, Act.eval, Deferred.ofValue, invoke, Sem.run_bind, Sem.run_pure, Result.andThen_ok, Array.empty_append, Array.append_empty, hr]
theorem BP.retcc {fn : Func} {Post : Value → World → Prop} {tm : List Value} {p q : Tmp} {t2 T2 : TypeId} {D2 : TypeDesc} {b2 n n2 : Nat} {cs cs2 : Array Value} (hr : fn.results = #[.cell p t, .cell q t2]) (hp : tm.getD p undef = PT b 0) (hq : tm.getD q undef = PT b2 0) (hb : Blk w b T cs) (hb2 : Blk w b2 T2 cs2)
    (hu : P.underlying t = some D) (hu2 : P.underlying t2 = some D2) (hD : isAggD D = true) (hD2 : isAggD D2 = true) (hs : szc P t = some n) (hs2 : szc P t2 = some n2) (hn : cs.size = n) (hn2 : cs2.size = n2) (h : Post (.tuple #[.agg cs, .agg cs2]) w) : BP P fn Post .ret ⟨tm.toArray, []⟩ w := by
  refine .of (v := .tuple #[.agg cs, .agg cs2]) ?_ rfl h
  have hl := run_loadN (P := P) (w := w) (b := b) (o := 0) (cs := cs) hu hD hs (fun j hj => by
    have hlt : 0 + j < cs.size := by omega
    rw [hb.cell (Array.getElem?_eq_getElem hlt), Array.getElem?_eq_getElem hlt]) (by omega)
  rw [show cs.extract 0 (0 + n) = cs by rw [Nat.zero_add, ← hn]; simp] at hl
  have hl2 := run_loadN (P := P) (w := w) (b := b2) (o := 0) (cs := cs2) hu2 hD2 hs2 (fun j hj => by
    have hlt : 0 + j < cs2.size := by omega
    rw [hb2.cell (Array.getElem?_eq_getElem hlt), Array.getElem?_eq_getElem hlt]) (by omega)
  rw [show cs2.extract 0 (0 + n2) = cs2 by rw [Nat.zero_add, ← hn2]; simp] at hl2
  have hp' : tm[p]?.getD undef = PT b 0 := by rw [← hp, List.getD_eq_getElem?_getD]
  have hq' : tm[q]?.getD undef = PT b2 0 := by rw [← hq, List.getD_eq_getElem?_getD]
  simp [results, hr, hp', hq', asAddr, hl, hl2]
end
end Go.Proofs.YtdkjdioccpoacaaDoor
set_option linter.unusedSimpArgs false
set_option linter.unusedVariables false
set_option maxRecDepth 100000
set_option maxHeartbeats 4000000
namespace Go.Proofs.YtdkjdioccpoacaaDoor
open Go
open List (getD_cons_zero getD_cons_succ set_cons_zero set_cons_succ)
theorem cf32 : Callable Tryd.prog 32 := ⟨Tryd.f32, Tryd.func32, by kernel_rfl, by kernel_rfl⟩
theorem cf76 : Callable Tryd.prog 76 := ⟨Tryd.f76, Tryd.func76, by kernel_rfl, by kernel_rfl⟩
theorem cf84 : Callable Tryd.prog 84 := ⟨Tryd.f84, Tryd.func84, by kernel_rfl, by kernel_rfl⟩
theorem cf87 : Callable Tryd.prog 87 := ⟨Tryd.f87, Tryd.func87, by kernel_rfl, by kernel_rfl⟩
theorem cf99 : Callable Tryd.prog 99 := ⟨Tryd.f99, Tryd.func99, by kernel_rfl, by kernel_rfl⟩
theorem zc33 : zeroC Tryd.prog 33 = some #[.string ⟨#[]⟩, .string ⟨#[]⟩, .string ⟨#[]⟩] := by kernel_rfl
theorem zc128 : zeroC Tryd.prog 128 = some #[V64 0, V64 0] := by kernel_rfl
theorem bp22_0 : ∀ w, (Instr.build 22 [].toArray).run Tryd.prog w = .ok (.agg (arr8 32 fun _ => 0)) w := fun w => by kernel_rfl
theorem bp22_1 (x : UInt8) : ∀ w, (Instr.build 22 [(0, V8 x)].toArray).run Tryd.prog w = .ok (.agg (arr8 32 fun i => if i = 0 then x else 0)) w := fun w => by kernel_rfl
theorem bp102_1 (x : UInt64) : ∀ w, (Instr.build 102 [(0, V64 x)].toArray).run Tryd.prog w = .ok (.agg (arr64 5 fun i => if i = 0 then x else 0)) w := fun w => by kernel_rfl
theorem zc104 : zeroC Tryd.prog 104 = some (arr64 5 fun _ => 0) := by kernel_rfl
theorem bd104_0 (f : Nat → UInt64) : ∀ w, (Instr.build 104 [(0, .agg (arr64 5 f))].toArray).run Tryd.prog w = .ok (.agg (arr64 5 f)) w := fun w => by kernel_rfl
theorem zc108 : zeroC Tryd.prog 108 = some (arr64 10 (cat5 (fun _ => 0) fun _ => 0)) := by kernel_rfl
theorem bd108_0_1 (f g : Nat → UInt64) : ∀ w, (Instr.build 108 [(0, .agg (arr64 5 f)), (1, .agg (arr64 5 g))].toArray).run Tryd.prog w = .ok (.agg (arr64 10 (cat5 f g))) w := fun w => by kernel_rfl
theorem bd33_0_1_2 (x0_0 : ByteArray) (x1_0 : ByteArray) (x2_0 : ByteArray) : ∀ w, (Instr.build 33 [(0, .string x0_0), (1, .string x1_0), (2, .string x2_0)].toArray).run Tryd.prog w = .ok (.agg #[.string x0_0, .string x1_0, .string x2_0]) w := fun w => by kernel_rfl
theorem bd128_ : ∀ w, (Instr.build 128 [].toArray).run Tryd.prog w = .ok (.agg #[V64 0, V64 0]) w := fun w => by kernel_rfl
theorem bd128_0_1 (x0_0 : UInt64) (x1_0 : UInt64) : ∀ w, (Instr.build 128 [(0, V64 x0_0), (1, V64 x1_0)].toArray).run Tryd.prog w = .ok (.agg #[V64 x0_0, V64 x1_0]) w := fun w => by kernel_rfl
theorem bd132_0_1 (x0_0 : Option Addr) (x1_0 : UInt64) (x1_1 : UInt64) : ∀ w, (Instr.build 132 [(0, .pointer x0_0), (1, .agg #[V64 x1_0, V64 x1_1])].toArray).run Tryd.prog w = .ok (.agg #[.pointer x0_0, V64 x1_0, V64 x1_1]) w := fun w => by kernel_rfl
end Go.Proofs.YtdkjdioccpoacaaDoor
set_option linter.unusedSimpArgs false
set_option linter.unusedVariables false
namespace Go.Proofs.YtdkjdioccpoacaaDoor
open Go
abbrev Five := Nat → UInt64
def ofL (b : Nat → UInt8) : Nat → Five
  | 0 => fun _ => 0
  | i + 1 => upd (ofL b i) (i / 51) (ofL b i (i / 51) ||| (if i % 51 < 64 then ((if i % 8 < 8 then b (i / 8) >>> UInt8.ofNat (i % 8) else 0) &&& 1).toUInt64 <<< UInt64.ofNat (i % 51) else 0))
def fOf (b : Nat → UInt8) : Five := ofL b 255
def carL (f : Five) : Nat → Five × UInt64
  | 0 => (f, 0)
  | i + 1 => (upd (upd (carL f i).1 i ((carL f i).1 i + (carL f i).2)) i (upd (carL f i).1 i ((carL f i).1 i + (carL f i).2) i &&& 2251799813685247), upd (carL f i).1 i ((carL f i).1 i + (carL f i).2) i >>> 51)
def fCar (f : Five) : Five := upd (carL f 5).1 0 ((carL f 5).1 0 + 19 * (carL f 5).2)
def bovL (a : Five) : Nat → UInt64
  | 0 => a 0 + 19
  | i + 1 => a (i + 1) + bovL a i >>> 51
def bcaL (a : Five) : Nat → Five
  | 0 => a
  | i + 1 => upd (upd (bcaL a i) (i + 1) (bcaL a i (i + 1) + bcaL a i i >>> 51)) i (upd (bcaL a i) (i + 1) (bcaL a i (i + 1) + bcaL a i i >>> 51) i &&& 2251799813685247)
def bcan (a : Five) : Five := upd (bcaL (upd a 0 (a 0 + (19 : UInt64) * (bovL a 4 >>> 51))) 4) 4 (bcaL (upd a 0 (a 0 + (19 : UInt64) * (bovL a 4 >>> 51))) 4 4 &&& 2251799813685247)
def foutL (a : Five) : Nat → Nat → UInt8
  | 0 => fun _ => 0
  | i + 1 => upd (foutL a i) (i / 8) (foutL a i (i / 8) ||| (if i % 8 < 8 then ((if i % 51 < 64 then a (i / 51) >>> UInt64.ofNat (i % 51) else 0) &&& 1).toUInt8 <<< UInt8.ofNat (i % 8) else 0))
def fBytes (f : Five) : Nat → UInt8 := foutL (bcan (fCar (fCar (fCar f)))) 255
def addL (f g : Five) : Nat → Five
  | 0 => f
  | i + 1 => upd (addL f g i) i (addL f g i i + g i)
def fAdd (f g : Five) : Five := fCar (addL f g 5)
def most (i : Nat) : UInt64 := if i = 0 then 9007199254740988 - 72 else 9007199254740988
def subL (f g : Five) : Nat → Five
  | 0 => f
  | i + 1 => upd (subL f g i) i (subL f g i i + (most i - g i))
def fSub (f g : Five) : Five := fCar (subL f g 5)
def mulH (x y : UInt64) : UInt64 := UInt64.ofNat (x.toNat * y.toNat / 18446744073709551616)
def addC (x y : UInt64) : UInt64 := UInt64.ofNat ((x.toNat + y.toNat) / 18446744073709551616)
def mulK (i j : Nat) : Nat := if 5 ≤ i + j then i + j - 5 else i + j
def mulY (i j : Nat) (y : UInt64) : UInt64 := if 5 ≤ i + j then y * 19 else y
def mul1 (i j : Nat) (x y : UInt64) (s : Five × Five) : Five × Five :=
  (upd s.1 (mulK i j) (s.1 (mulK i j) + (mulH x (mulY i j y) + addC (s.2 (mulK i j)) (x * mulY i j y))), upd s.2 (mulK i j) (s.2 (mulK i j) + x * mulY i j y))
def mulJ (i : Nat) (x : UInt64) (g : Five) (s : Five × Five) : Nat → Five × Five
  | 0 => s
  | j + 1 => mul1 i j x (g j) (mulJ i x g s j)
def mulI (f g : Five) : Nat → Five × Five
  | 0 => (fun _ => 0, fun _ => 0)
  | i + 1 => mulJ i (f i) g (mulI f g i) 5
def mouL (s : Five × Five) : Nat → Five × UInt64
  | 0 => (fun _ => 0, 0)
  | k + 1 => (upd (mouL s k).1 k ((s.2 k + (mouL s k).2) &&& 2251799813685247), (s.1 k + addC (s.2 k) (mouL s k).2) <<< 13 ||| (s.2 k + (mouL s k).2) >>> 51)
def mfin (p : Five × UInt64) : Five := upd (upd p.1 0 (p.1 0 + (19 : UInt64) * (p.2 &&& 2251799813685247))) 1 (upd p.1 0 (p.1 0 + (19 : UInt64) * (p.2 &&& 2251799813685247)) 1 + (19 : UInt64) * (p.2 >>> 51))
def fMul (f g : Five) : Five := fCar (mfin (mouL (mulI f g 5) 5))
theorem and32 (x : UInt64) : (x &&& 4294967295).toNat = x.toNat % 4294967296 := by rw [UInt64.toNat_and]; exact Nat.and_two_pow_sub_one_eq_mod x.toNat 32
theorem shr32 (x : UInt64) : (x >>> 32).toNat = x.toNat / 4294967296 := by rw [UInt64.toNat_shiftRight]; exact Nat.shiftRight_eq_div_pow _ _
theorem prod32 {a b : Nat} (ha : a < 4294967296) (hb : b < 4294967296) : a * b ≤ 18446744065119617025 := Nat.mul_le_mul (show a ≤ 4294967295 by omega) (show b ≤ 4294967295 by omega)
theorem mul32 {a b : UInt64} (ha : a.toNat < 4294967296) (hb : b.toNat < 4294967296) : (a * b).toNat = a.toNat * b.toNat := by
  rw [UInt64.toNat_mul]
  have := prod32 ha hb
  exact Nat.mod_eq_of_lt (by omega)
theorem mulH_nat (x y : UInt64) : (mulH x y).toNat = x.toNat * y.toNat / 18446744073709551616 := by
  unfold mulH
  have hx := x.toNat_lt; have hy := y.toNat_lt
  have : x.toNat * y.toNat ≤ 18446744073709551615 * 18446744073709551615 := Nat.mul_le_mul (by omega) (by omega)
  exact UInt64.toNat_ofNat_of_lt' (by have : UInt64.size = 18446744073709551616 := rfl; omega)
theorem mul64_is (x y : UInt64) : (x >>> 32) * (y >>> 32) + ((x >>> 32) * (y &&& (4294967295 : UInt64)) + ((x &&& (4294967295 : UInt64)) * (y &&& (4294967295 : UInt64))) >>> 32) >>> 32 + ((((x >>> 32) * (y &&& (4294967295 : UInt64)) + ((x &&& (4294967295 : UInt64)) * (y &&& (4294967295 : UInt64))) >>> 32) &&& (4294967295 : UInt64)) + (x &&& (4294967295 : UInt64)) * (y >>> 32)) >>> 32 = mulH x y := by
  apply UInt64.toNat_inj.1
  rw [mulH_nat]
  have hx0 := and32 x; have hx1 := shr32 x; have hy0 := and32 y; have hy1 := shr32 y
  have lx := x.toNat_lt; have ly := y.toNat_lt
  have ex : x.toNat = x.toNat / 4294967296 * 4294967296 + x.toNat % 4294967296 := by omega
  have ey : y.toNat = y.toNat / 4294967296 * 4294967296 + y.toNat % 4294967296 := by omega
  generalize x >>> 32 = a1 at *
  generalize y >>> 32 = b1 at *
  generalize x &&& (4294967295 : UInt64) = a0 at *
  generalize y &&& (4294967295 : UInt64) = b0 at *
  have l0 : a0.toNat < 4294967296 := by omega
  have l1 : a1.toNat < 4294967296 := by omega
  have k0 : b0.toNat < 4294967296 := by omega
  have k1 : b1.toNat < 4294967296 := by omega
  rw [← hx0, ← hx1] at ex
  rw [← hy0, ← hy1] at ey
  have ep : x.toNat * y.toNat = a1.toNat * b1.toNat * 18446744073709551616 + (a1.toNat * b0.toNat + a0.toNat * b1.toNat) * 4294967296 + a0.toNat * b0.toNat := by
    rw [ex, ey]; grind
  rw [ep]
  have p00 := prod32 l0 k0; have p01 := prod32 l0 k1; have p10 := prod32 l1 k0; have p11 := prod32 l1 k1
  have m00 := mul32 l0 k0; have m01 := mul32 l0 k1; have m10 := mul32 l1 k0; have m11 := mul32 l1 k1
  generalize a0 * b0 = q00 at *
  generalize a0 * b1 = q01 at *
  generalize a1 * b0 = q10 at *
  generalize a1 * b1 = q11 at *
  generalize a0.toNat * b0.toNat = n00 at *
  generalize a0.toNat * b1.toNat = n01 at *
  generalize a1.toNat * b0.toNat = n10 at *
  generalize a1.toNat * b1.toNat = n11 at *
  have t1 : (q10 + q00 >>> 32).toNat = n10 + n00 / 4294967296 := by rw [UInt64.toNat_add, shr32, m00, m10]; omega
  have t2 : (((q10 + q00 >>> 32) &&& (4294967295 : UInt64)) + q01).toNat = (n10 + n00 / 4294967296) % 4294967296 + n01 := by rw [UInt64.toNat_add, and32, t1, m01]; omega
  rw [UInt64.toNat_add, UInt64.toNat_add, shr32, shr32, t1, t2, m11]
  omega
def fOne : Five := fun i => if i = 0 then 1 else 0
def invL (f : Five) : Nat → Five
  | 0 => fOne
  | n + 1 => if n = 252 ∨ n = 250 then fMul (invL f n) (invL f n) else fMul (fMul (invL f n) (invL f n)) f
def fInv (f : Five) : Five := invL f 255
def swM (s : Bool) : UInt64 := if s then 18446744073709551615 else 0
def swL (s : Bool) (f g : Five) : Nat → Five × Five
  | 0 => (f, g)
  | i + 1 => (upd (swL s f g i).1 i ((swL s f g i).1 i ^^^ (((swL s f g i).1 i ^^^ (swL s f g i).2 i) &&& swM s)), upd (swL s f g i).2 i ((swL s f g i).2 i ^^^ (((swL s f g i).1 i ^^^ (swL s f g i).2 i) &&& swM s)))
theorem sw_is (s : Bool) (f g : Five) : ∀ n j, (swL s f g n).1 j = (if j < n ∧ s = true then g j else f j) ∧ (swL s f g n).2 j = (if j < n ∧ s = true then f j else g j)
  | 0, j => by simp [swL]
  | n + 1, j => by
    have ih := sw_is s f g n
    have e : ∀ x y : UInt64, x ^^^ ((x ^^^ y) &&& swM s) = (if s = true then y else x) ∧ y ^^^ ((x ^^^ y) &&& swM s) = (if s = true then x else y) := fun x y => by
      cases s
      · simp [swM]
      · have hm : ∀ z : UInt64, z &&& swM true = z := fun z => UInt64.toBitVec_inj.1 (by rw [UInt64.toBitVec_and]; show z.toBitVec &&& BitVec.allOnes 64 = _; rw [BitVec.and_allOnes])
        rw [hm, ← UInt64.xor_assoc, UInt64.xor_self, UInt64.zero_xor, UInt64.xor_comm x y, ← UInt64.xor_assoc, UInt64.xor_self, UInt64.zero_xor]
        exact ⟨rfl, rfl⟩
    have i1 := (ih n).1; have i2 := (ih n).2
    rw [if_neg (by omega)] at i1 i2
    simp only [swL, upd]
    rw [i1, i2, (e _ _).1, (e _ _).2, (ih j).1, (ih j).2]
    by_cases hj : j = n
    · subst hj
      rw [if_pos rfl, if_pos rfl]
      cases s <;> simp
    · rw [if_neg hj, if_neg hj]
      have : j < n + 1 ↔ j < n := by omega
      simp [this]
theorem sw_true1 (f g : Five) : arr64 5 (swL true f g 5).1 = arr64 5 g := arr64_congr fun i hi => by rw [(sw_is true f g 5 i).1, if_pos ⟨hi, rfl⟩]
theorem sw_true2 (f g : Five) : arr64 5 (swL true f g 5).2 = arr64 5 f := arr64_congr fun i hi => by rw [(sw_is true f g 5 i).2, if_pos ⟨hi, rfl⟩]
theorem sw_false1 (f g : Five) : arr64 5 (swL false f g 5).1 = arr64 5 f := arr64_congr fun i hi => by rw [(sw_is false f g 5 i).1, if_neg (by simp)]
theorem sw_false2 (f g : Five) : arr64 5 (swL false f g 5).2 = arr64 5 g := arr64_congr fun i hi => by rw [(sw_is false f g 5 i).2, if_neg (by simp)]
structure Pt where
  x : Five
  z : Five
abbrev Pt.v (p : Pt) : Value := .agg (arr64 10 (cat5 p.x p.z))
def fSmall (l : List UInt8) : Five := fOf fun i => l.getD i 0
def stepS (p : Pt) : Five := fAdd p.x p.z
def stepT (p : Pt) : Five := fSub p.x p.z
def stepE (p : Pt) : Five := fSub (fMul (stepS p) (stepS p)) (fMul (stepT p) (stepT p))
def stepA (p q : Pt) : Five := fMul (fAdd q.x q.z) (stepT p)
def stepB (p q : Pt) : Five := fMul (fSub q.x q.z) (stepS p)
def stepP (p : Pt) : Pt := ⟨fMul (fMul (stepS p) (stepS p)) (fMul (stepT p) (stepT p)), fMul (stepE p) (fAdd (fMul (stepS p) (stepS p)) (fMul (fSmall [65, 219, 1]) (stepE p)))⟩
def stepQ (p q : Pt) (u : Five) : Pt := ⟨fMul (fAdd (stepA p q) (stepB p q)) (fAdd (stepA p q) (stepB p q)), fMul u (fMul (fSub (stepA p q) (stepB p q)) (fSub (stepA p q) (stepB p q)))⟩
def bitN (n : Nat → UInt8) (i : Nat) : Bool := decide (i = 254) || (decide (3 ≤ i) && (((if i % 8 < 8 then n (i / 8) >>> UInt8.ofNat (i % 8) else 0) &&& 1) == 1))
def timL (n : Nat → UInt8) (u : Five) : Nat → Pt × Pt × Bool
  | 0 => (⟨fSmall [1], fSmall []⟩, ⟨u, fSmall [1]⟩, false)
  | k + 1 =>
    let s := timL n u k
    let b := bitN n (254 - k)
    let c := b != s.2.2
    let p : Pt := ⟨if c then s.2.1.x else s.1.x, if c then s.2.1.z else s.1.z⟩
    let q : Pt := ⟨if c then s.1.x else s.2.1.x, if c then s.1.z else s.2.1.z⟩
    (stepP p, stepQ p q u, b)
def fTimes (n at' : Nat → UInt8) : Nat → UInt8 :=
  let s := timL n (fOf at') 255
  let x := if s.2.2 then s.2.1.x else s.1.x
  let z := if s.2.2 then s.2.1.z else s.1.z
  fBytes (fMul x (fInv z))
end Go.Proofs.YtdkjdioccpoacaaDoor
set_option linter.unusedSimpArgs false
set_option linter.unusedVariables false
namespace Go.Proofs.YtdkjdioccpoacaaDoor
open Go
structure ChgN (N : Nat) (w w' : World) : Prop where
  os : w'.os = w.os
  tape : w'.tape = w.tape
  output : w'.output = w.output
  size : w.heap.size ≤ w'.heap.size
  block : ∀ k, k < N → k < w.heap.size → w'.heap[k]? = w.heap[k]?
theorem Far.chgN (N : Nat) : Far (ChgN N) where
  of w w' h := ⟨h.os, h.tape, h.output, h.size, fun k _ hk => h.block k hk (by simp)⟩
  trans a b c h k := ⟨k.os.trans h.os, k.tape.trans h.tape, k.output.trans h.output, Nat.le_trans h.size k.size, fun i hi hlt => (k.block i hi (Nat.lt_of_lt_of_le hlt h.size)).trans (h.block i hi hlt)⟩
theorem ChgN.of_chg {N : Nat} {S : List Nat} {w w' : World} (h : Chg S w w') (hS : ∀ b ∈ S, N ≤ b) : ChgN N w w' :=
  ⟨h.os, h.tape, h.output, h.size, fun k hk hlt => h.block k hlt fun hm => by have := hS k hm; omega⟩
theorem ChgN.blk {N : Nat} {w w' : World} (h : ChgN N w w') {b : Nat} {t : TypeId} {cs : Array Value} (hb : Blk w b t cs) (hN : b < N) : Blk w' b t cs := hb.of_heap (h.block b hN hb.lt)
theorem Hp.sizeN {S : List Nat} {w0 w : World} {L : List Own} (h : Hp S w0 w L) : ∃ N, N ≤ w.heap.size ∧ ∀ (i : Nat) (b : Nat) (t : TypeId) (cs : Array Value), L[i]? = some (some b, t, cs) → b < N :=
  ⟨w.heap.size, Nat.le_refl _, fun i b t cs hi => (h.blk i hi).lt⟩
section
variable {P : Program} {ops : List Oper} {Q : Exit → Act → World → Prop} {r : List PStep} {a : Act} {w : World} {i : Nat} {d : Option Tmp} {ty : TypeId} {pos : String} {af : Array Edge} {g : Option (Nat × Bool)} {x y : Operand} {t t' T : TypeId}
  {S : List Nat} {w0 : World} {L : List Own} {N : Nat}
theorem plan_buildSliceN {dst : Tmp} {e n : Nat} {cs : Array Value} {parts : List (Nat × Operand)} {vs : List (Nat × Value)} (ho : ops[i]? = some ⟨some dst, .buildSlice t n parts.toArray, ty, pos, af, g⟩) (hg : Region.wanted ⟨some dst, .buildSlice t n parts.toArray, ty, pos, af, g⟩ (yielded ops.toArray a.tmps) = true)
    (hNw : N ≤ w.heap.size) (hH : Hp S w0 w L) (hu : P.underlying t = some (.slice e)) (hv : (parts.map fun p => (p.1, a.eval p.2)) = vs)
    (hrun : ∀ w, (Instr.buildSlice t n vs.toArray).run P w = .ok (.slice (some ⟨w.heap.size, 0, none⟩) n n) (w.alloc (.cells cs e)))
    (h : ∀ b w', N ≤ w'.heap.size → N ≤ b → Hp S w0 w' (L ++ [(some b, e, cs)]) → wpPlan P ops.toArray Q r (a.put (some dst) (own (some b) n n)) w') : wpPlan P ops.toArray Q (.x i :: r) a w := fun w1 hw => by
  have hN1 : N ≤ w1.heap.size := Nat.le_trans hNw hw.size
  have hv' : (parts.toArray.map fun (p : Nat × Operand) => (p.1, a.eval p.2)) = vs.toArray := by rw [← hv]; simp
  have hr : (execOp a.eval ⟨some dst, .buildSlice t n parts.toArray, ty, pos, af, g⟩).run P w1 = .ok (.value (own (some w1.heap.size) n n)) (w1.alloc (.cells cs e)) := by
    simp only [execOp, Sem.run_bind]
    rw [show (parts.toArray.map fun x => match x with | (i, x) => (i, a.eval x)) = vs.toArray from hv', hrun w1]
    rfl
  unfold wpOp
  simp only [at_list ho, hg, if_true]
  refine .inl ?_
  unfold Oper.wp
  rw [hr]
  exact ⟨(Chg.refl _ _).alloc _, h _ _ (Nat.le_trans hN1 ((Chg.refl [] w1).alloc _).size) hN1 ((hH.call hw).alloc e cs)⟩
theorem plan_nilN (hNw : N ≤ w.heap.size) (hH : Hp S w0 w L) (h : ∀ w', N ≤ w'.heap.size → Hp S w0 w' L → Q .normal a w') : wpPlan P ops.toArray Q [] a w := fun w1 hw => h w1 (Nat.le_trans hNw hw.size) (hH.call hw)
end
section
variable {P : Program} {ops : Array Oper} {Q : Exit → Act → World → Prop} {md : Region.Mode} {E M : List Nat} {R0 : World → World → Prop}
def Pend (P : Program) (md : Region.Mode) (ops : Array Oper) (Q : Exit → Act → World → Prop) (E M : List Nat) (R0 : World → World → Prop) (n : Nat) (l : List Nat) (a : Act) (w : World) : Prop :=
  ∀ (fuel : Nat) (L : Array Bool), Rel ops L l → n ≤ fuel → wpAnyR P md ops Q E M R0 fuel L a w
def QK (Q : Exit → Act → World → Prop) (K : Act → World → Prop) : Exit → Act → World → Prop
  | .normal => K
  | e => Q e
theorem QK.out {K : Act → World → Prop} (h : LetsOut (QK Q K)) : LetsOut Q := h
theorem wpOp_QK {K K' : Act → World → Prop} {i : Nat} {a : Act} {w : World} (h : wpOp P ops (QK Q K) i K' a w) : wpOp P ops Q i K' a w := by
  unfold wpOp at *
  cases hi : ops[i]? with
  | none => rw [hi] at h; exact h
  | some o =>
    rw [hi] at h
    simp only at h ⊢
    split
    · rename_i hw
      rw [if_pos hw] at h
      rcases h with h | h
      · refine .inl ?_
        unfold Oper.wp at *
        generalize (execOp a.eval o).run P w = r at *
        cases r with
        | ok n w' =>
          cases n <;> exact h
        | halt x w' => cases x <;> exact h
      · exact .inr h
    · rename_i hw
      rw [if_neg hw] at h; exact h
def idxs : List PStep → List Nat → List Nat
  | [], l => l
  | s :: r, l => idxs r (s.idx :: l)
def preOK (T : List Row) (E M : List Nat) : List PStep → List Nat → Bool
  | [], _ => true
  | .p i :: r, l => okTake T true E l i && preOK T E M r (i :: l)
  | .q i :: r, l => okTake T false (E ++ M) l i && preOK T E M r (i :: l)
  | .r i _ :: r, l => okTake T false E l i && preOK T E M r (i :: l)
  | .x k :: r, l => readyAt T l k && loneAt l k T 0 && preOK T E M r (k :: l)
  | .s k _ :: r, l => readyAt T l k && loneAt l k T 0 && preOK T E M r (k :: l)
  | .e k :: r, l => readyAt T l k && loneAt l k T 0 && preOK T E M r (k :: l)
theorem anyR_take (hR0 : Far R0) (hsel : Region.noSelect ops = true) (hQ : ∀ c a d v w, Q (.panic c) (a.put d v) w → Q (.panic c) a w) (R : World → World → Prop) (hR : Far R) (pure : Bool) (E' : List Nat) (hE' : ∀ j, (pure = true ∨ E'.contains j = false) → ∀ w w', eff E M R0 j w w' → R w w')
    (i : Nat) (fuel : Nat) (L : Array Bool) (l : List Nat) (a : Act) (w : World) (o : Oper) (v : Value) (hR' : Rel ops L l) (ho : ops[i]? = some o) (hy : Qt P ops o v R w a)
    (hok : okTake (tabOf md ops) pure E' l i = true) (H : wpAnyR P md ops Q E M R0 fuel (L.setIfInBounds i true) (a.put o.dst v) w) : wpAnyR P md ops Q E M R0 (fuel + 1) L a w := by
  simp only [okTake, tab_get ho, Bool.and_eq_true, Bool.not_eq_true'] at hok
  obtain ⟨⟨⟨⟨h0, h1⟩, h2⟩, h3⟩, h4⟩ := hok
  refine wpAnyR_first hR0 hR ho (Region.noSelect_spec hsel) (fun c a w => hQ c a _ _ w) (fun j => (growth i (!pure) E' (tabOf md ops) 0 l).contains j) ?_ fuel L a w ?_ ?_ ?_ hy H
  · intro j oj hoj hji hall
    have := closed_spec _ 0 h3 j _ (tab_get hoj) (by simpa using hji) (subset_row.2 hall)
    simpa using this
  · intro k hk
    rw [hR'.getDf] at hk
    exact growth_mem _ _ _ _ hk
  · intro j oj hoj hji hS hl
    rw [hR'.getDt (lt_of_get hoj)] at hl
    have := freeIn_spec _ 0 h4 j _ (tab_get hoj) (by simpa using hji) (by simpa using hS) (by simpa using hl)
    exact ⟨hE' j (by simpa using this.1), this.2⟩
  · exact (ready_iff hR').2 ⟨h0, o, ho, h1⟩
theorem anyR_only {k : Nat} {L : Array Bool} {l : List Nat} (hR : Rel ops L l) (h1 : readyAt (tabOf md ops) l k = true) (h2 : loneAt l k (tabOf md ops) 0 = true) : (∃ o, ops[k]? = some o) ∧ k ∈ Region.ready md ops L ∧ ∀ j ∈ Region.ready md ops L, j = k := by
  have hrk : ∃ o, ops[k]? = some o ∧ l.contains k = false ∧ subset (rowOf md ops o).after l = true := by
    unfold readyAt at h1
    cases ht : (tabOf md ops)[k]? with
    | none => rw [ht] at h1; cases h1
    | some rr =>
      rw [ht] at h1
      obtain ⟨o, ho, rfl⟩ := tab_get' ht
      simp only [Bool.and_eq_true, Bool.not_eq_true'] at h1
      exact ⟨o, ho, h1.1, h1.2⟩
  obtain ⟨o, ho, hk0, hk1⟩ := hrk
  refine ⟨⟨o, ho⟩, (ready_iff hR).2 ⟨hk0, o, ho, hk1⟩, fun j hj => ?_⟩
  obtain ⟨hj0, oj, hoj, hjs⟩ := (ready_iff hR).1 hj
  have := loneAt_spec _ 0 h2 j _ (tab_get hoj) (by simpa using hj0) hjs
  omega
def lonely (E M : List Nat) : PStep → Bool
  | .x _ => true
  | .s k _ => M.contains k
  | .e k => E.contains k
  | _ => false
theorem step_eff (hR0 : Far R0) {n : Nat} {l : List Nat} {a : Act} {w : World} : ∀ (s : PStep), lonely E M s = true → AllR R0 [s] → wpPlan P ops (QK Q (Pend P md ops Q E M R0 n (s.idx :: l))) [s] a w →
    ∀ w1, Chg [] w w1 → wpOp P ops Q s.idx (fun a' w' => eff E M R0 s.idx w1 w' ∧ Pend P md ops Q E M R0 n (s.idx :: l) a' w') a w1
  | .x k, _, _, h, w1, hw => wpOp_mono (fun a' w' h' => ⟨.grown hR0 h'.1, h'.2 w' (.refl _ _)⟩) (wpOp_QK (h w1 hw))
  | .s k R, hk, hA, h, w1, hw => by
    obtain ⟨rfl, _⟩ := hA
    have hk : M.contains k = true := hk
    exact wpOp_mono (fun a' w' h' => ⟨⟨fun _ => h'.1, fun _ hc => (by have hc : M.contains k = false := hc; rw [hk] at hc; cases hc)⟩, h'.2 w' (.refl _ _)⟩) (wpOp_QK (h w1 hw))
  | .e k, hk, _, h, w1, hw => by
    have hk : E.contains k = true := hk
    exact wpOp_mono (fun a' w' h' => ⟨⟨fun hc => (by have hc : E.contains k = false := hc; rw [hk] at hc; cases hc), fun hc => (by have hc : E.contains k = false := hc; rw [hk] at hc; cases hc)⟩, h' w' (.refl _ _)⟩) (wpOp_QK (h w1 hw))
  | .p _, hk, _, _, _, _ => by cases hk
  | .q _, hk, _, _, _, _ => by cases hk
  | .r _ _, hk, _, _, _, _ => by cases hk
def amongst (l is : List Nat) : List Row → Nat → Bool
  | [], _ => true
  | r :: rs, j => (is.contains j || l.contains j || !subset r.after l) && amongst l is rs (j + 1)
theorem amongst_spec {l is : List Nat} : ∀ (T : List Row) (n : Nat), amongst l is T n = true → ∀ j r, T[j]? = some r → l.contains (n + j) = false → subset r.after l = true → is.contains (n + j) = true
  | [], _, _, j, r, h, _, _ => by simp at h
  | x :: T, n, hc, j, r, h, hl, hs => by
    simp only [amongst, Bool.and_eq_true, Bool.or_eq_true, Bool.not_eq_true'] at hc
    cases j with
    | zero =>
      simp at h; subst h
      simp only [Nat.add_zero] at hl ⊢
      rcases hc.1 with (h1 | h1) | h1
      · exact h1
      · rw [hl] at h1; cases h1
      · rw [hs] at h1; cases h1
    | succ j =>
      have := amongst_spec T (n + 1) hc.2 j r (by simpa using h) (by rw [show n + 1 + j = n + (j + 1) by omega]; exact hl) hs
      rw [show n + (j + 1) = n + 1 + j by omega]; exact this
theorem Pend.fork2 (hR0 : Far R0) {n : Nat} {l : List Nat} {a : Act} {w : World} (s1 s2 : PStep) (c1 : lonely E M s1 = true) (c2 : lonely E M s2 = true) (A1 : AllR R0 [s1]) (A2 : AllR R0 [s2]) (r1 : readyAt (tabOf md ops) l s1.idx = true) (hall : amongst l [s1.idx, s2.idx] (tabOf md ops) 0 = true)
    (h1 : wpPlan P ops (QK Q (Pend P md ops Q E M R0 n (s1.idx :: l))) [s1] a w) (h2 : wpPlan P ops (QK Q (Pend P md ops Q E M R0 n (s2.idx :: l))) [s2] a w) : Pend P md ops Q E M R0 (n + 1) l a w := by
  intro fuel L hR hn
  obtain ⟨fuel, rfl⟩ : ∃ m, fuel = m + 1 := ⟨fuel - 1, by omega⟩
  have hmem : s1.idx ∈ Region.ready md ops L := by
    unfold readyAt at r1
    cases ht : (tabOf md ops)[s1.idx]? with
    | none => rw [ht] at r1; cases r1
    | some rr =>
      rw [ht] at r1
      obtain ⟨o, ho, rfl⟩ := tab_get' ht
      simp only [Bool.and_eq_true, Bool.not_eq_true'] at r1
      exact (ready_iff hR).2 ⟨r1.1, o, ho, r1.2⟩
  intro w1 hw1
  refine ⟨fun h0 => (by rw [h0] at hmem; cases hmem), fun j hj => ?_⟩
  obtain ⟨hj0, oj, hoj, hjs⟩ := (ready_iff hR).1 hj
  have hin := amongst_spec _ 0 hall j _ (tab_get hoj) (by simpa using hj0) hjs
  have hj2 : j = s1.idx ∨ j = s2.idx := by
    have := List.contains_iff_mem.1 hin
    simpa using this
  rcases hj2 with rfl | rfl
  · exact wpOp_mono (fun a' w' h' => ⟨h'.1, h'.2 fuel _ (hR.cons (lt_of_get hoj)) (by omega)⟩) (step_eff hR0 s1 c1 A1 h1 w1 hw1)
  · exact wpOp_mono (fun a' w' h' => ⟨h'.1, h'.2 fuel _ (hR.cons (lt_of_get hoj)) (by omega)⟩) (step_eff hR0 s2 c2 A2 h2 w1 hw1)
theorem Pend.plan (hR0 : Far R0) (hsel : Region.noSelect ops = true) (hQ : ∀ c a d v w, Q (.panic c) (a.put d v) w → Q (.panic c) a w) {n : Nat} : ∀ (pl : List PStep) (l : List Nat) (a : Act) (w : World), AllR R0 pl → (∀ i ∈ effects pl, E.contains i = true) → (∀ i ∈ marked pl, M.contains i = true) →
    preOK (tabOf md ops) E M pl l = true → wpPlan P ops (QK Q (Pend P md ops Q E M R0 n (idxs pl l))) pl a w → Pend P md ops Q E M R0 (n + pl.length) l a w := by
  intro pl
  induction pl with
  | nil => intro l a w _ _ _ _ h; exact h w (.refl _ _)
  | cons s r ih =>
    intro l a w hA hE hM hok h fuel L hR hn
    simp only [List.length_cons] at hn
    obtain ⟨fuel, rfl⟩ : ∃ m, fuel = m + 1 := ⟨fuel - 1, by omega⟩
    cases s with
    | p i =>
      obtain ⟨o, ho, v, hy, hn'⟩ := h
      simp only [preOK, Bool.and_eq_true] at hok
      exact anyR_take hR0 hsel hQ anyW .any true E (fun _ _ _ _ _ => trivial) i fuel L l a w o v hR ho hy hok.1 (ih (i :: l) _ w hA hE hM hok.2 hn' fuel _ (hR.cons (lt_of_get ho)) (by omega))
    | q i =>
      obtain ⟨o, ho, v, hy, hn'⟩ := h
      simp only [preOK, Bool.and_eq_true] at hok
      refine anyR_take hR0 hsel hQ (Chg []) .grown false (E ++ M) (fun j hj w w' he => ?_) i fuel L l a w o v hR ho hy hok.1 (ih (i :: l) _ w hA hE hM hok.2 hn' fuel _ (hR.cons (lt_of_get ho)) (by omega))
      rcases hj with hj | hj
      · cases hj
      · rw [List.contains_eq_mem, decide_eq_false_iff_not, List.mem_append, not_or] at hj
        exact he.2 (by simpa using hj.1) (by simpa using hj.2)
    | r i R =>
      obtain ⟨o, ho, v, hy, hn'⟩ := h
      obtain ⟨rfl, hA⟩ := hA
      simp only [preOK, Bool.and_eq_true] at hok
      refine anyR_take hR0 hsel hQ R hR0 false E (fun j hj w w' he => ?_) i fuel L l a w o v hR ho hy hok.1 (ih (i :: l) _ w hA hE hM hok.2 hn' fuel _ (hR.cons (lt_of_get ho)) (by omega))
      rcases hj with hj | hj
      · cases hj
      · exact he.1 hj
    | x k =>
      simp only [preOK, Bool.and_eq_true] at hok
      obtain ⟨⟨o, ho⟩, hmem, hall⟩ := anyR_only hR hok.1.1 hok.1.2
      intro w1 hw1
      refine ⟨fun h0 => (by rw [h0] at hmem; cases hmem), fun j hj => ?_⟩
      obtain rfl := hall j hj
      exact wpOp_mono (fun a' w' h' => ⟨.grown hR0 h'.1, ih (j :: l) a' w' hA hE hM hok.2 h'.2 fuel _ (hR.cons (lt_of_get ho)) (by omega)⟩) (wpOp_QK (h w1 hw1))
    | s k R =>
      obtain ⟨rfl, hA⟩ := hA
      simp only [preOK, Bool.and_eq_true] at hok
      obtain ⟨⟨o, ho⟩, hmem, hall⟩ := anyR_only hR hok.1.1 hok.1.2
      intro w1 hw1
      refine ⟨fun h0 => (by rw [h0] at hmem; cases hmem), fun j hj => ?_⟩
      obtain rfl := hall j hj
      have hMj := hM j (by simp [marked])
      exact wpOp_mono (fun a' w' h' => ⟨⟨fun _ => h'.1, fun _ hc => (by rw [hMj] at hc; cases hc)⟩, ih (j :: l) a' w' hA hE (fun i hi => hM i (by simp [marked, hi])) hok.2 h'.2 fuel _ (hR.cons (lt_of_get ho)) (by omega)⟩) (wpOp_QK (h w1 hw1))
    | e k =>
      simp only [preOK, Bool.and_eq_true] at hok
      obtain ⟨⟨o, ho⟩, hmem, hall⟩ := anyR_only hR hok.1.1 hok.1.2
      intro w1 hw1
      refine ⟨fun h0 => (by rw [h0] at hmem; cases hmem), fun j hj => ?_⟩
      obtain rfl := hall j hj
      have hEj := hE j (by simp [effects])
      exact wpOp_mono (fun a' w' h' => ⟨⟨fun hc => (by rw [hEj] at hc; cases hc), fun hc => (by rw [hEj] at hc; cases hc)⟩, ih (j :: l) a' w' hA (fun i hi => hE i (by simp [effects, hi])) hM hok.2 h' fuel _ (hR.cons (lt_of_get ho)) (by omega)⟩) (wpOp_QK (h w1 hw1))
theorem Pend.done {n : Nat} {l : List Nat} {a : Act} {w : World} (hok : noneReady l (tabOf md ops) 0 = true) (h : ∀ w1, Chg [] w w1 → Q .normal a w1) : Pend P md ops Q E M R0 n l a w := by
  intro fuel L hR _
  have hr : Region.ready md ops L = [] := by
    apply List.eq_nil_iff_forall_not_mem.2
    intro j hj
    obtain ⟨h0, o, ho, hs⟩ := (ready_iff hR).1 hj
    exact noneReady_spec _ 0 hok j _ (tab_get ho) (by simpa using h0) hs
  cases fuel with
  | zero => exact fun w1 h1 => ⟨hr, h w1 h1⟩
  | succ fuel => exact fun w1 h1 => ⟨fun _ => h w1 h1, by rw [hr]; simp⟩
theorem wp_region_pend {id : Nat} {l : List Oper} {a : Act} {w : World} (E M : List Nat) (R0 : World → World → Prop) (hm : P.follows .mixedOrders = true) (h : Pend P .any l.toArray Q E M R0 l.toArray.size [] a w) : (Code.region id l.toArray true).wp P Q a w :=
  wp_region_any hm (wpAny_of_R _ _ _ _ (wpAnyR.grow (h _ _ Rel.start (Nat.le_refl _)) (Chg.drew (.refl _ _))))
end
end Go.Proofs.YtdkjdioccpoacaaDoor
set_option linter.unusedSimpArgs false
set_option linter.unusedVariables false
namespace Go.Proofs.YtdkjdioccpoacaaDoor
open Go
def ownO (o : Option Nat) (off n cap : Nat) : Value := .slice (o.map fun b => ⟨b, off, none⟩) n cap
structure OwnD (o : Option Nat) (off n cap : Nat) (cs : Array Value) (l : List UInt8) : Prop where
  le : n ≤ cap
  fit : off + cap ≤ cs.size
  nil : o = none → cap = 0
  len : l.length = n
  at_ : ∀ i (h : i < l.length), cs[off + i]? = some (V8 l[i])
theorem OwnD.start : OwnD none 0 0 0 #[] [] := ⟨Nat.le_refl _, by simp, fun _ => rfl, rfl, fun i h => by simp at h⟩
theorem OwnC.d {o : Option Nat} {n cap : Nat} {cs : Array Value} {l : List UInt8} (h : OwnC o n cap 1 cs (l.map V8)) : OwnD o 0 n cap cs l where
  le := h.le
  fit := by have := h.size; omega
  nil := h.nil
  len := by have := h.len; simpa using this
  at_ i hi := by
    have hl : l.length = n := by have := h.len; simpa using this
    rw [Nat.zero_add, h.at_ i (by omega)]; simp [hi]
theorem OwnD.sl {w : World} {S : List Nat} {w0 : World} {L : List Own} (hH : Hp S w0 w L) (k : Nat) {o : Option Nat} {t off n cap : Nat} {cs : Array Value} {l : List UInt8} (hk : L[k]? = some (o, t, cs)) (h : OwnD o off n cap cs l) : Sl w (ownO o off n cap) l := by
  have hl := h.len
  subst hl
  refine ⟨_, cap, rfl, h.le, fun hne => ?_⟩
  cases o with
  | none =>
    have := h.nil rfl; have := h.le
    exact absurd (List.eq_nil_of_length_eq_zero (by omega)) hne
  | some b => exact ⟨b, off, rfl, fun i hi => (hH.blk k hk).cell (h.at_ i hi)⟩
def cutO (off lo cap : Nat) : Nat := if cap = lo then off else off + lo
theorem OwnD.cutl {o : Option Nat} {off n cap : Nat} {cs : Array Value} {l : List UInt8} (h : OwnD o off n cap cs l) {lo : Nat} (h1 : lo ≤ n) : OwnD o (cutO off lo cap) (n - lo) (cap - lo) cs (l.drop lo) where
  le := by have := h.le; omega
  fit := by have := h.fit; have := h.le; unfold cutO; split <;> omega
  nil e := by have := h.nil e; omega
  len := by rw [List.length_drop, h.len]
  at_ i hi := by
    have hle := h.le
    rw [List.length_drop, h.len] at hi
    have hc : ¬ cap = lo := by omega
    unfold cutO
    rw [if_neg hc, Nat.add_assoc, h.at_ (lo + i) (by rw [h.len]; omega)]
    simp
section
variable {P : Program} {ops : List Oper} {Q : Exit → Act → World → Prop} {r : List PStep} {a : Act} {w : World} {i : Nat} {d : Option Tmp} {ty : TypeId} {pos : String} {af : Array Edge} {g : Option (Nat × Bool)} {x y : Operand} {t t' T : TypeId}
  {S : List Nat} {w0 : World} {L : List Own}
theorem pr_slice_D {k : IntKind} {e : TypeId} {o : Option Nat} {off n cap lo : Nat} {xl : Operand} (hx : a.eval x = ownO o off n cap) (hl : a.eval xl = .int k (lo : Int)) (hu : P.underlying t = some (.slice e)) (hs : szc P e = some 1) (h1 : lo ≤ n) :
    PRun P ⟨d, .slice t x (some xl) none none, ty, pos, af, g⟩ a (ownO o (cutO off lo cap) (n - lo) (cap - lo)) := by
  have := pr_slice_l (d := d) (ty := ty) (pos := pos) (af := af) (g := g) (ad := o.map fun b => ⟨b, off, none⟩) (n := n) (c := cap) hx hl hu hs h1
  have e1 : cutA (o.map fun b => (⟨b, off, none⟩ : Addr)) lo cap 1 = o.map fun b => ⟨b, cutO off lo cap, none⟩ := by
    unfold cutA cutO
    split
    · rfl
    · cases o <;> simp [addr_add]
  rw [e1] at this
  exact this
theorem own_firstD {k : Nat} {o : Option Nat} {e off n cap : Nat} {cs : Array Value} {l : List UInt8} (hH : Hp S w0 w L) (hk : L[k]? = some (o, e, cs)) (hO : OwnD o off n cap cs l) :
    (Builtin.firstCells 1 n (ownO o off n cap)).run P w = .ok (l.map V8).toArray w := by
  have := (OwnD.sl hH k hk hO).src (P := P)
  have h2 := this.2.2.2 w (.refl _ _)
  rw [hO.len] at h2
  exact h2
theorem appendD_run (k : Nat) {o : Option Nat} {off n cap m e : Nat} {cs : Array Value} {l bl : List UInt8} {D : TypeDesc} {vy : Value}
    (hH : Hp S w0 w L) (hk : L[k]? = some (o, e, cs)) (hO : OwnD o off n cap cs l) (hsrc : Src P w vy 1 m (bl.map V8)) (hu : P.underlying t = some (.slice e)) (hu' : P.underlying t' = some D) (hD : (∃ e2, D = .slice e2) ∨ D = .string)
    (hs : szc P e = some 1) (hb : bytesOf P e = some 1) (hz : zeroC P e = some #[V8 0]) (hbd : n + m ≤ 140737488355328) :
    ∃ o' off' cap' cs' w', (Builtin.append_ #[t, t'] ty #[ownO o off n cap, vy]).run P w = .ok (ownO o' off' (n + m) cap') w' ∧ OwnD o' off' (n + m) cap' cs' (l ++ bl) ∧ Hp S w0 w' (L.set k (o', e, cs')) ∧ Chg o.toList w w' ∧ ∀ b, o' = some b → o = some b ∨ w.heap.size ≤ b := by
  obtain ⟨hlen, hnl, hone, hfirst⟩ := hsrc
  have hbts : ∃ inf, P.info? e = some inf ∧ inf.bytes = 1 ∧ inf.size = 1 ∧ ∃ z, inf.zero = some z ∧ z.cells = #[V8 0] := by
    unfold bytesOf at hb
    obtain ⟨inf, hi, hb1⟩ := Option.map_eq_some_iff.1 hb
    unfold szc at hs
    rw [hi] at hs
    unfold zeroC at hz
    rw [hi] at hz
    obtain ⟨z, hz1, hz2⟩ := Option.map_eq_some_iff.1 hz
    exact ⟨inf, hi, hb1, by simpa using hs, z, by simpa using hz1, hz2⟩
  obtain ⟨inf, hinf, hib, his, z, hiz, hzc⟩ := hbts
  have hle := hO.le
  have hfit := hO.fit
  have hll := hO.len
  have hbl : bl.length = m := by simpa using hnl
  by_cases hroom : n + m ≤ cap
  · have hsz : off + n + (bl.map V8).length ≤ cs.size := by rw [List.length_map]; omega
    have hown : OwnD o off (n + m) cap (splice cs (off + n) (bl.map V8).toArray) (l ++ bl) := by
      refine ⟨hroom, by rw [splice_size (by simpa using hsz)]; exact hfit, hO.nil, by rw [List.length_append]; omega, fun j hj => ?_⟩
      rw [splice_get (by simpa using hsz)]
      simp only [List.size_toArray, List.length_map]
      by_cases hjn : j < n
      · rw [if_neg (by omega), hO.at_ j (by omega), List.getElem_append_left (by omega)]
      · rw [List.length_append] at hj
        rw [if_pos ⟨by omega, by omega⟩, List.getElem_append_right (by omega)]
        simp [show off + j - (off + n) = j - n by omega, hll, show j - n < bl.length by omega]
    have hf := hfirst w (.refl _ _)
    cases o with
    | none =>
      have hc0 := hO.nil rfl
      have hm0 : m = 0 := by omega
      have hn0 : n = 0 := by omega
      have hb0 : bl = [] := List.eq_nil_of_length_eq_zero (by omega)
      subst hb0
      subst hm0; subst hn0; subst hc0
      refine ⟨none, off, 0, cs, w, ?_, by simpa using hO, hH.say k hk rfl, .refl _ _, fun b hb => .inl hb⟩
      rcases hD with ⟨e2, rfl⟩ | rfl <;> simp [Builtin.append_, run_underlying hu, run_underlying hu', ownO, sizeOf, typeInfo, hinf, his, hlen, hroom] <;> (have hf' : (Builtin.firstCells 1 0 vy).run P w = .ok #[] w := by simpa using hf) <;> rw [hf'] <;> rfl
    | some b =>
      obtain ⟨w', hr, hB, hoth, hsz', e1, e2, e3⟩ := run_storeCells_blk (P := P) (bl.map V8) 0 (off + n) w cs (hH.blk k hk) (by simpa using hsz) hone
      refine ⟨some b, off, cap, _, w', ?_, hown, ?_, ⟨e1, e2, e3, by omega, fun k' hk' hn => hoth k' (by simpa using hn)⟩, fun b hb => .inl hb⟩
      · have hr' : (storeCells (⟨b, off + n, none⟩ : Addr) (bl.map V8)).run P w = .ok () w' := hr
        rcases hD with ⟨e2, rfl⟩ | rfl <;> simp [Builtin.append_, run_underlying hu, run_underlying hu', ownO, sizeOf, typeInfo, hinf, his, hlen, hroom, hf, addr_add] <;> rw [hr'] <;> rfl
      · refine hH.put k hk ?_ (by simpa using hB) fun k' hk' _ => hoth k' hk'
        refine hH.chg.trans' (T := [b]) ⟨e1, e2, e3, by omega, fun k' hk' hn => hoth k' (by simpa using hn)⟩ ?_
        intro z' hz' hlt
        simp only [List.mem_singleton] at hz'
        subst hz'
        rcases hH.mine k hk with h1 | h1
        · omega
        · exact h1
  · obtain ⟨c, hc, hch⟩ : ∃ c, n + m ≤ c ∧ (Question.appendCap (n + m) cap e).cut (w.tape w.drawn (.appendCap (n + m) cap e)) = c := ⟨_, by simp [Question.cut], rfl⟩
    have hfc : (Question.appendCap (n + m) cap e).forced = false := rfl
    have hd : Chg [] w w.drew := (Chg.refl _ _).drew
    have hf := hfirst w.drew hd
    have hfo := own_firstD (P := P) (hH.call hd) hk hO
    have hgs := growslice_fits (bytes := 1) (show cap < n + m by omega) (by omega)
    have h48 : ¬ (281474976710656 < Builtin.nextslicecap (n + m) cap) := by omega
    have h63 : ¬ (9223372036854775807 < ((n : Int) + (m : Int))) := by omega
    have hzl : (Builtin.zeroCells #[V8 0] (c - (n + m))).size = c - (n + m) := by simp [Builtin.zeroCells]
    refine ⟨some w.drew.heap.size, 0, c, (l.map V8).toArray ++ (bl.map V8).toArray ++ Builtin.zeroCells #[V8 0] (c - (n + m)), w.drew.alloc (.cells ((l.map V8).toArray ++ (bl.map V8).toArray ++ Builtin.zeroCells #[V8 0] (c - (n + m))) e), ?_, ⟨hc, ?_, (by intro h; cases h), by rw [List.length_append]; omega, fun j hj => ?_⟩, ?_, (hd.alloc _).weak (by simp), fun b hb => .inr (by cases hb; exact Nat.le_refl _)⟩
    · rcases hD with ⟨e2, rfl⟩ | rfl <;> simp [Builtin.append_, run_underlying hu, run_underlying hu', ownO, sizeOf, typeInfo, zeroValue, hinf, his, hib, hiz, hlen, hroom, h63, h48, hfc, hch, hzc, newRow]
      all_goals (simp only [ownO] at hfo; rw [hfo]; simp only [Result.andThen_ok]; rw [hf]; simp; congr 2; apply Array.ext'; simp)
    · simp only [Array.size_append, List.size_toArray, hzl, List.length_map]; omega
    · rw [Nat.zero_add, Array.getElem?_append_left (by simp; rw [List.length_append] at hj; omega)]
      have e3 : (l.map V8).toArray ++ (bl.map V8).toArray = ((l ++ bl).map V8).toArray := by simp
      rw [e3, List.getElem?_toArray, List.getElem?_map, List.getElem?_eq_getElem hj]; rfl
    · refine (hH.call hd).turn k hk _ ?_ ?_ ?_ ?_
      · exact hH.chg.trans' (T := []) (hd.alloc _) (by simp)
      · intro b hb'
        cases hb'
        exact ⟨.inl (by have := hH.chg.size; exact this), Blk.new _ _ _⟩
      · intro b hb'; cases hb'; exact .inr (Nat.le_refl _)
      · intro k' _ hlt
        exact RowKit.Below.heap_alloc _ _ _ hlt
theorem plan_appendD (k : Nat) {dst : Tmp} {o : Option Nat} {off n cap m e : Nat} {cs : Array Value} {l bl : List UInt8} {D : TypeDesc} {vy : Value}
    (ho : ops[i]? = some ⟨some dst, .call ⟨.builtin .append, #[x, y], #[t, t']⟩, ty, pos, af, g⟩) (hg : Region.wanted ⟨some dst, .call ⟨.builtin .append, #[x, y], #[t, t']⟩, ty, pos, af, g⟩ (yielded ops.toArray a.tmps) = true)
    (hH : Hp S w0 w L) (hk : L[k]? = some (o, e, cs)) (hO : OwnD o off n cap cs l) (hsrc : ∀ w1, Hp S w0 w1 L → Src P w1 vy 1 m (bl.map V8)) (hx : a.eval x = ownO o off n cap) (hy : a.eval y = vy) (hu : P.underlying t = some (.slice e)) (hu' : P.underlying t' = some D) (hD : (∃ e2, D = .slice e2) ∨ D = .string)
    (hs : szc P e = some 1) (hb : bytesOf P e = some 1) (hz : zeroC P e = some #[V8 0]) (hbd : n + m ≤ 140737488355328)
    (h : ∀ o' off' cap' cs' w', OwnD o' off' (n + m) cap' cs' (l ++ bl) → Hp S w0 w' (L.set k (o', e, cs')) → wpPlan P ops.toArray Q r (a.put (some dst) (ownO o' off' (n + m) cap')) w') : wpPlan P ops.toArray Q (.e i :: r) a w := by
  refine plan_ev hH ho hg fun w hH => ?_
  obtain ⟨o', off', cap', cs', w', hr, hO', hH', _, _⟩ := appendD_run (ty := ty) k hH hk hO (hsrc w hH) hu hu' hD hs hb hz hbd
  refine ⟨_, w', ?_, h o' off' cap' cs' w' hO' hH'⟩
  simp only [execOp, resolve, List.map_toArray, List.map_cons, List.map_nil, hx, hy, invoke, builtin, Sem.run_bind, Sem.run_pure, Result.andThen_ok, hr]
end
end Go.Proofs.YtdkjdioccpoacaaDoor
set_option linter.unusedSimpArgs false
set_option linter.unusedVariables false
namespace Go.Proofs.YtdkjdioccpoacaaDoor
open Go
theorem BP.retct {P : Program} {fn : Func} {Post : Value → World → Prop} {tm : List Value} {w : World} {p q : Tmp} {t T : TypeId} {D : TypeDesc} {b n : Nat} {cs : Array Value} {v2 : Value} (hr : fn.results = #[.cell p t, .tmp q]) (hp : tm.getD p undef = PT b 0) (hq : tm.getD q undef = v2) (hb : Blk w b T cs)
    (hu : P.underlying t = some D) (hD : isAggD D = true) (hs : szc P t = some n) (hn : cs.size = n) (h : Post (.tuple #[.agg cs, v2]) w) : BP P fn Post .ret ⟨tm.toArray, []⟩ w := by
  subst hq
  refine .of (v := .tuple #[.agg cs, tm.getD q undef]) ?_ rfl h
  have hl := run_loadN (P := P) (w := w) (b := b) (o := 0) (cs := cs) hu hD hs (fun j hj => by
    have hlt : 0 + j < cs.size := by omega
    rw [hb.cell (Array.getElem?_eq_getElem hlt), Array.getElem?_eq_getElem hlt]) (by omega)
  rw [show cs.extract 0 (0 + n) = cs by rw [Nat.zero_add, ← hn]; simp] at hl
  have hp' : tm[p]?.getD undef = PT b 0 := by rw [← hp, List.getD_eq_getElem?_getD]
  simp [results, hr, hp', asAddr, hl]
theorem grownCap_le (w : World) (n c : Nat) (e : TypeId) : n ≤ grownCap w n c e := by
  simp [grownCap, Question.cut]
theorem conv_own (w : World) (e b : Nat) (s : ByteArray) : OwnC (some b) s.size (grownCap w s.size 0 e) 1 (Lib.bytesCells w e s) (s.data.toList.map V8) where
  le := grownCap_le ..
  size := by
    have h1 := grownCap_le w s.size 0 e
    have h2 : s.data.size = s.size := rfl
    simp only [Lib.bytesCells, Array.size_append, Array.size_map, Array.size_replicate]; omega
  nil h := by cases h
  len := by simp
  at_ i hi := by
    have h2 : s.data.size = s.size := rfl
    have h3 : i < s.data.size := by omega
    unfold Lib.bytesCells
    rw [Array.getElem?_append_left (by simpa using h3), Array.getElem?_map, List.getElem?_map, Array.getElem?_toList]
theorem conv_chg (w : World) (e : TypeId) (s : ByteArray) : Chg [] w (Lib.bytesWorld w e s) :=
  ((((Hp.start [] w).drew.alloc e (Lib.bytesCells w e s))).mark 0 rfl).chg
theorem OwnC.cut3 {o : Option Nat} {n c : Nat} {cs : Array Value} {l : List UInt8} {m : Nat} (h : OwnC o n c 1 cs (l.map V8)) (hm : m ≤ n) : OwnD o 0 m m cs (l.take m) where
  le := Nat.le_refl _
  fit := by have := h.d.fit; have := h.le; omega
  nil e := by have := h.nil e; have := h.le; omega
  len := by have := h.d.len; rw [List.length_take]; omega
  at_ i hi := by
    rw [List.length_take] at hi
    rw [h.d.at_ i (by omega)]; simp
section
variable {P : Program} {ops : List Oper} {Q : Exit → Act → World → Prop} {r : List PStep} {a : Act} {w : World} {i : Nat} {d : Option Tmp} {ty : TypeId} {pos : String} {af : Array Edge} {g : Option (Nat × Bool)} {x y : Operand} {t t' T : TypeId}
  {S : List Nat} {w0 : World} {L : List Own}
theorem plan_s2b {dst : Tmp} {e : TypeId} {s : ByteArray} (ho : ops[i]? = some ⟨some dst, .convert t t' x, ty, pos, af, g⟩) (hg : Region.wanted ⟨some dst, .convert t t' x, ty, pos, af, g⟩ (yielded ops.toArray a.tmps) = true)
    (hH : Hp S w0 w L) (hx : a.eval x = .string s) (hu : P.underlying t = some .string) (hu' : P.underlying t' = some (.slice e)) (he : P.underlying e = some (.int .u8))
    (h : ∀ b cap cs w', OwnC (some b) s.size cap 1 cs (s.data.toList.map V8) → Hp S w0 w' (L ++ [(some b, e, cs)]) → wpPlan P ops.toArray Q r (a.put (some dst) (own (some b) s.size cap)) w') : wpPlan P ops.toArray Q (.x i :: r) a w := by
  refine plan_xv hH ho hg fun w hH => ⟨own (some w.heap.size) s.size (grownCap w s.size 0 e), Lib.bytesWorld w e s, ?_, conv_chg w e s, h w.heap.size _ _ _ (conv_own w e _ s) ?_⟩
  · simp only [execOp, hx]
    rw [Sem.run_bind, Lib.run_convert_string_bytes w t t' e s hu hu' he]
    rfl
  · have h1 := ((hH.drew.alloc e (Lib.bytesCells w e s))).mark L.length (b := w.heap.size) (t := e) (cs := Lib.bytesCells w e s) (by simp)
    have e1 : (L ++ [(some w.drew.heap.size, e, Lib.bytesCells w e s)]).set L.length (some w.heap.size, e, Lib.bytesCells w e s) = L ++ [(some w.heap.size, e, Lib.bytesCells w e s)] := by
      rw [List.set_append_right _ _ (Nat.le_refl _), Nat.sub_self]; rfl
    rw [e1] at h1
    exact h1
theorem pr_slice_O3 {k k' : IntKind} {e : TypeId} {o : Option Nat} {n c h : Nat} {xh xm : Operand} (hx : a.eval x = own o n c) (hh : a.eval xh = .int k (h : Int)) (hm : a.eval xm = .int k' (h : Int)) (hu : P.underlying t = some (.slice e)) (hs : szc P e = some 1) (h1 : h ≤ c) :
    PRun P ⟨d, .slice t x none (some xh) (some xm), ty, pos, af, g⟩ a (ownO o 0 h h) := fun w => by
  refine run_ok_value (w := w) ?_
  have e0 : (if h = 0 then (o.map fun b => (⟨b, 0, none⟩ : Addr)) else (o.map fun b => (⟨b, 0, none⟩ : Addr)).map fun a => a.add 0) = o.map fun b => (⟨b, 0, none⟩ : Addr) := by
    split
    · rfl
    · cases o <;> simp [Addr.add]
  simp only [own, ownO] at hx ⊢
  simp [hx, hh, hm, Instr.sliceAt, Instr.slice, run_underlying hu, Instr.sliceBounds, run_bound h1, run_bound (Nat.le_refl h), run_sizeOf hs, e0]
  intro _
  cases o <;> simp [Addr.add]
end
end Go.Proofs.YtdkjdioccpoacaaDoor
set_option linter.unusedSimpArgs false
set_option linter.unusedVariables false
namespace Go.Proofs.YtdkjdioccpoacaaDoor
open Go
theorem Hp.join {S : List Nat} {w0 w w' : World} {L es : List Own} (h : Hp S w0 w L) (k : Hp [] w w' es) : Hp S w0 w' (L ++ es) where
  chg := h.chg.trans' k.chg (by simp)
  own x hx b hb := by
    rcases List.mem_append.1 hx with hx | hx
    · exact (h.call k.chg).own x hx b hb
    · obtain ⟨h1, h2⟩ := k.own x hx b hb
      refine ⟨.inl (Nat.le_trans h.chg.size (h1.resolve_right (by simp))), h2⟩
  apart i j b hi hj := by
    have key : ∀ m : Nat, ((L ++ es)[m]?).bind Own.at = some b → (m < L.length ∧ (L[m]?).bind Own.at = some b) ∨ (L.length ≤ m ∧ (es[m - L.length]?).bind Own.at = some b) := by
      intro m hm
      rw [List.getElem?_append] at hm
      split at hm
      · rename_i h1; exact .inl ⟨h1, hm⟩
      · rename_i h1; exact .inr ⟨by omega, hm⟩
    have cross : ∀ m m' : Nat, (L[m]?).bind Own.at = some b → (es[m']?).bind Own.at = some b → False := by
      intro m m' h1 h2
      obtain ⟨x, hx, hxb⟩ := Option.bind_eq_some_iff.1 h1
      obtain ⟨y, hy, hyb⟩ := Option.bind_eq_some_iff.1 h2
      have a1 := h.lt (List.mem_of_getElem? hx) hxb
      have a2 := (k.own y (List.mem_of_getElem? hy) b hyb).1.resolve_right (by simp)
      omega
    rcases key i hi with ⟨a1, a2⟩ | ⟨a1, a2⟩ <;> rcases key j hj with ⟨c1, c2⟩ | ⟨c1, c2⟩
    · exact h.apart i j b a2 c2
    · exact (cross _ _ a2 c2).elim
    · exact (cross _ _ c2 a2).elim
    · have := k.apart _ _ b a2 c2; omega
theorem Hp.pick1 {S : List Nat} {w0 w : World} {L : List Own} (h : Hp S w0 w L) (i : Nat) {e : Own} (hi : L[i]? = some e) : Hp S w0 w [e] :=
  (h.take 0).add e (fun b hb => h.own e (List.mem_of_getElem? hi) b hb) (fun x hx => by simp at hx)
theorem Hp.pick2 {S : List Nat} {w0 w : World} {L : List Own} (h : Hp S w0 w L) (i j : Nat) {e e' : Own} (hi : L[i]? = some e) (hj : L[j]? = some e') (hij : i ≠ j) : Hp S w0 w [e, e'] := by
  refine (h.pick1 i hi).add e' (fun b hb => h.own e' (List.mem_of_getElem? hj) b hb) (fun x hx b hb hxb => ?_)
  simp only [List.mem_singleton] at hx
  subst hx
  exact hij (h.apart i j b (by rw [hi]; exact hxb) (by rw [hj]; exact hb))
theorem BP.ret4 {P : Program} {fn : Func} {Post : Value → World → Prop} {tm : List Value} {w : World} {t1 t2 t3 t4 : Tmp} {v1 v2 v3 v4 : Value} (hr : fn.results = #[.tmp t1, .tmp t2, .tmp t3, .tmp t4]) (h1 : tm.getD t1 undef = v1) (h2 : tm.getD t2 undef = v2) (h3 : tm.getD t3 undef = v3) (h4 : tm.getD t4 undef = v4) (h : Post (.tuple #[v1, v2, v3, v4]) w) : BP P fn Post .ret ⟨tm.toArray, []⟩ w :=
  .of (v := .tuple #[v1, v2, v3, v4]) (by subst h1; subst h2; subst h3; subst h4; simp [results, hr]) rfl h
section
variable {P : Program} {ops : List Oper} {Q : Exit → Act → World → Prop} {r : List PStep} {a : Act} {w : World} {i j : Nat} {d : Option Tmp} {ty : TypeId} {pos : String} {af : Array Edge} {g : Option (Nat × Bool)} {x y c : Operand} {t t' T : TypeId} {o : Oper} {v : Value} {b : Bool}
theorem wanted_of {pol : Bool} (hg : o.guard = some (j, pol)) (hy : yielded ops.toArray a.tmps j = some b) : Region.wanted o (yielded ops.toArray a.tmps) = (b == pol) := by
  unfold Region.wanted; rw [hg]; simp only [hy]; cases b <;> cases pol <;> rfl
theorem plan_pc_t (ho : ops[i]? = some o) (hg : o.guard = some (j, true)) (hy : yielded ops.toArray a.tmps j = some b) (hrun : b = true → PRun P o a v) (h : wpPlan P ops.toArray Q r (a.put o.dst (cond b v undef)) w) : wpPlan P ops.toArray Q (.p i :: r) a w := by
  cases b with
  | true => exact plan_p ho (by rw [wanted_of hg hy]; rfl) (hrun rfl) h
  | false => exact plan_ps ho (by rw [wanted_of hg hy]; rfl) h
theorem plan_pc_f (ho : ops[i]? = some o) (hg : o.guard = some (j, false)) (hy : yielded ops.toArray a.tmps j = some b) (hrun : b = false → PRun P o a v) (h : wpPlan P ops.toArray Q r (a.put o.dst (cond b undef v)) w) : wpPlan P ops.toArray Q (.p i :: r) a w := by
  cases b with
  | false => exact plan_p ho (by rw [wanted_of hg hy]; rfl) (hrun rfl) h
  | true => exact plan_ps ho (by rw [wanted_of hg hy]; rfl) h
theorem plan_qc_f (ho : ops[i]? = some o) (hg : o.guard = some (j, false)) (hy : yielded ops.toArray a.tmps j = some b) (hrun : b = false → QRun P o a w v) (h : wpPlan P ops.toArray Q r (a.put o.dst (cond b undef v)) w) : wpPlan P ops.toArray Q (.q i :: r) a w := by
  cases b with
  | false => exact plan_q ho (by rw [wanted_of hg hy]; rfl) (hrun rfl) h
  | true => exact plan_qs ho (by rw [wanted_of hg hy]; rfl) h
theorem pr_pick_or {b' : Bool} (hc : a.eval c = .bool b) (hx : a.eval x = .bool true) (hy : a.eval y = cond b undef (.bool b')) : PRun P ⟨d, .pick c x y, ty, pos, af, g⟩ a (BV (b || b')) := by
  have h := pr_pick (P := P) (d := d) (ty := ty) (pos := pos) (af := af) (g := g) (x := x) (y := y) hc
  cases b with
  | true => rw [if_pos rfl, hx] at h; exact h
  | false => rw [if_neg (by decide), hy] at h; exact h
theorem pr_pick_and {b' : Bool} (hc : a.eval c = .bool b) (hx : a.eval x = cond b (.bool b') undef) (hy : a.eval y = .bool false) : PRun P ⟨d, .pick c x y, ty, pos, af, g⟩ a (BV (b && b')) := by
  have h := pr_pick (P := P) (d := d) (ty := ty) (pos := pos) (af := af) (g := g) (x := x) (y := y) hc
  cases b with
  | true => rw [if_pos rfl, hx] at h; exact h
  | false => rw [if_neg (by decide), hy] at h; exact h
theorem bin_shr_i {m : Int} {cc : Nat} {k : IntKind} (hc : cc < 64) : Bin P .shr t x y (I64 m) (.int k (cc : Int)) (I64 (m / 2 ^ cc)) := bin_of_int fun w => by
  have h0 : ¬ ((cc : Int) < 0) := by omega
  show (Op.shift .shr .i64 m k (cc : Int)).run P w = _
  have e : Int.fdiv m (2 ^ (min cc 64)) = m / 2 ^ cc := by
    rw [Nat.min_eq_left (by omega), Int.fdiv_eq_ediv_of_nonneg _ (Int.le_of_lt (Int.pow_pos (by decide)))]
  simp only [Op.shift, h0, if_false, Int.toNat_natCast, IntKind.bits, e]
  rfl
theorem OwnC.some {o : Option Nat} {n cap s : Nat} {cs : Array Value} {xs : List Value} (h : OwnC o n cap s cs xs) (hn : 0 < n) : ∃ b, o = some b := by
  cases o with
  | none => have := h.nil rfl; have := h.le; omega
  | some b => exact ⟨b, rfl⟩
theorem run_eqGuard_slice (P : Program) (op : BinOp) (t : TypeId) (x y : Operand) (ad : Option Addr) (n k : Nat) (v : Value) (w : World) : (eqGuard op t x y (.slice ad n k) v).run P w = .ok () w := by
  unfold eqGuard; cases op <;> rfl
theorem bin_eql_slnil {e : TypeId} {ad : Option Addr} {n k : Nat} (hu : P.underlying t = some (.slice e)) : Bin P .eql t x y (.slice ad n k) (.slice none 0 0) (BV ad.isNone) := fun w => by
  rw [Sem.run_bind, run_eqGuard_slice]
  exact run_binOp_eql rfl (fun d w => by cases ad <;> simp [Op.equalIn, run_underlying hu]) w
theorem bin_eql_Sl {e : TypeId} {v : Value} {l : List UInt8} (h : Sl w v l) (hne : l ≠ []) (hu : P.underlying t = some (.slice e)) : Bin P .eql t x y v (.slice none 0 0) (BV false) := by
  obtain ⟨ad, c, rfl, _, hr⟩ := h
  obtain ⟨b, o, rfl, _⟩ := hr hne
  exact bin_eql_slnil hu
end
theorem gsl : (∀ a b : Bool, ((a || b) = false) = (a = false ∧ b = false)) ∧ (∀ a b : Bool, ((a || b) = true) = (a = true ∨ b = true)) ∧ (∀ a b : Bool, ((a && b) = true) = (a = true ∧ b = true)) ∧ (∀ a b : Bool, ((a && b) = false) = (a = false ∨ b = false)) ∧
  (∀ a : Bool, ((!a) = true) = (a = false)) ∧ (∀ a : Bool, ((!a) = false) = (a = true)) ∧ (∀ (p : Prop) [Decidable p], (decide p = true) = p) ∧ (∀ (p : Prop) [Decidable p], (decide p = false) = ¬ p) ∧
  (∀ a b : Nat, ((a == b) = true) = (a = b)) ∧ (∀ a b : Nat, ((a == b) = false) = ¬ (a = b)) ∧ (∀ a b : Nat, ((a != b) = true) = ¬ (a = b)) ∧ (∀ a b : Nat, ((a != b) = false) = (a = b)) ∧
  (∀ a b : Int, ((a == b) = true) = (a = b)) ∧ (∀ a b : Int, ((a == b) = false) = ¬ (a = b)) ∧ (∀ a b : Int, ((a != b) = true) = ¬ (a = b)) ∧ (∀ a b : Int, ((a != b) = false) = (a = b)) ∧
  (∀ a b : UInt8, ((a == b) = true) = (a = b)) ∧ (∀ a b : UInt8, ((a == b) = false) = ¬ (a = b)) ∧ (∀ a b : UInt8, ((a != b) = true) = ¬ (a = b)) ∧ (∀ a b : UInt8, ((a != b) = false) = (a = b)) ∧
  (∀ a b : List UInt8, ((a == b) = true) = (a = b)) ∧ (∀ a b : List UInt8, ((a == b) = false) = ¬ (a = b)) ∧
  (∀ a b : Nat, (¬ a < b) = (b ≤ a)) ∧ (∀ a b : Nat, (¬ a ≤ b) = (b < a)) ∧ (∀ a b : Int, (¬ a < b) = (b ≤ a)) ∧ (∀ a b : Int, (¬ a ≤ b) = (b < a)) ∧
  (∀ a b : Nat, (a > b) = (b < a)) ∧ (∀ a b : Nat, (a ≥ b) = (b ≤ a)) ∧ (∀ a b : Int, (a > b) = (b < a)) ∧ (∀ a b : Int, (a ≥ b) = (b ≤ a)) := by
  refine ⟨by simp, by simp, by simp, by simp, by simp, by simp, fun p _ => by simp, fun p _ => by simp, ?_, ?_, ?_, ?_, ?_, ?_, ?_, ?_, ?_, ?_, ?_, ?_, ?_, ?_, ?_, ?_, ?_, ?_, fun _ _ => rfl, fun _ _ => rfl, fun _ _ => rfl, fun _ _ => rfl⟩
  all_goals intro a b
  all_goals simp
end Go.Proofs.YtdkjdioccpoacaaDoor
set_option linter.unusedSimpArgs false
set_option linter.unusedVariables false
namespace Go.Proofs.YtdkjdioccpoacaaDoor
open Go
theorem Hp.pair {S : List Nat} {w0 w : World} {L : List Own} (h : Hp S w0 w L) : L.Pairwise fun e e' => ∀ b, e.1 = some b → e'.1 ≠ some b := by
  rw [List.pairwise_iff_getElem]
  intro i j hi hj hij b h1 h2
  have := h.apart i j b (by rw [List.getElem?_eq_getElem hi]; exact h1) (by rw [List.getElem?_eq_getElem hj]; exact h2)
  omega
theorem Hp.of_pair {S : List Nat} {w0 w : World} {L : List Own} (hc : Chg S w0 w) (ho : ∀ e ∈ L, ∀ b, e.1 = some b → (w0.heap.size ≤ b ∨ b ∈ S) ∧ Blk w b e.2.1 e.2.2) (hp : L.Pairwise fun e e' => ∀ b, e.1 = some b → e'.1 ≠ some b) : Hp S w0 w L := by
  refine ⟨hc, ho, fun i j b hi hj => ?_⟩
  rw [List.pairwise_iff_getElem] at hp
  obtain ⟨x, hx, hxb⟩ := Option.bind_eq_some_iff.1 hi
  obtain ⟨y, hy, hyb⟩ := Option.bind_eq_some_iff.1 hj
  obtain ⟨hil, rfl⟩ := List.getElem?_eq_some_iff.1 hx
  obtain ⟨hjl, rfl⟩ := List.getElem?_eq_some_iff.1 hy
  rcases Nat.lt_trichotomy i j with h | h | h
  · exact absurd hyb (hp i j hil hjl h b hxb)
  · exact h
  · exact absurd hxb (hp j i hjl hil h b hyb)
theorem Hp.perm {S : List Nat} {w0 w : World} {L L' : List Own} (h : Hp S w0 w L) (hp : L.Perm L') : Hp S w0 w L' :=
  .of_pair h.chg (fun e he => h.own e (hp.mem_iff.2 he)) ((hp.pairwise_iff (fun {a b} hab x h1 h2 => hab x h2 h1)).1 h.pair)
theorem Hp.swap {S : List Nat} {w0 w : World} {L a b : List Own} (h : Hp S w0 w (L ++ a ++ b)) : Hp S w0 w (L ++ b ++ a) := by
  refine h.perm ?_
  rw [List.append_assoc, List.append_assoc]
  exact List.Perm.append_left _ List.perm_append_comm
section
variable {P : Program} {ops : List Oper} {Q : Exit → Act → World → Prop} {md : Region.Mode} {E M : List Nat} {R0 : World → World → Prop} {S : List Nat} {w0 : World} {L : List Own}
def XA (P : Program) (ops : List Oper) (Q : Exit → Act → World → Prop) (i : Nat) (di : Tmp) (S : List Nat) (w0 : World) (L : List Own) (R : Value → List Own → Prop) (a : Act) : Prop :=
  ∀ L' w, Hp S w0 w (L ++ L') → ∀ K : Act → World → Prop, (∀ v es w', R v es → Hp S w0 w' (L ++ L' ++ es) → K (a.put (some di) v) w') → wpPlan P ops.toArray (QK Q K) [.x i] a w
structure XS (P : Program) (ops : List Oper) (Q : Exit → Act → World → Prop) (i : Nat) (di dj : Tmp) (S : List Nat) (w0 : World) (L : List Own) (R : Value → List Own → Prop) (a : Act) : Prop where
  here : XA P ops Q i di S w0 L R a
  there : ∀ u, XA P ops Q i di S w0 L R (a.put (some dj) u)
theorem Rel.swap {ops : Array Oper} {A : Array Bool} {l : List Nat} {i j : Nat} (h : Rel ops A (i :: j :: l)) : Rel ops A (j :: i :: l) where
  at_ k hk := by
    rw [h.at_ k hk]
    simp only [List.contains_cons]
    cases (k == i) <;> cases (k == j) <;> rfl
  size := h.size
  bound k hk := h.bound k (by simp only [List.mem_cons] at hk ⊢; rcases hk with hk | hk | hk <;> simp [hk])
theorem Pend.swap {n i j : Nat} {l : List Nat} {a : Act} {w : World} (h : Pend P md ops.toArray Q E M R0 n (i :: j :: l) a w) : Pend P md ops.toArray Q E M R0 n (j :: i :: l) a w :=
  fun fuel A hR hn => h fuel A hR.swap hn
theorem Pend.join2 (hR0 : Far R0) (hsel : Region.noSelect ops.toArray = true) (hQ : ∀ c a d v w, Q (.panic c) (a.put d v) w → Q (.panic c) a w) {n : Nat} {l : List Nat} {a : Act} {w : World} (i j : Nat) {di dj : Tmp} {Ri Rj : Value → List Own → Prop}
    (hH : Hp S w0 w L) (hne : di ≠ dj) (r1 : readyAt (tabOf md ops.toArray) l i = true) (hall : amongst l [i, j] (tabOf md ops.toArray) 0 = true) (p1 : preOK (tabOf md ops.toArray) E M [.x j] (i :: l) = true) (p2 : preOK (tabOf md ops.toArray) E M [.x i] (j :: l) = true)
    (xi : XS P ops Q i di dj S w0 L Ri a) (xj : XS P ops Q j dj di S w0 L Rj a)
    (h : ∀ v es v' es' w', Ri v es → Rj v' es' → Hp S w0 w' (L ++ es ++ es') → Pend P md ops.toArray Q E M R0 n (j :: i :: l) ((a.put (some di) v).put (some dj) v') w') : Pend P md ops.toArray Q E M R0 (n + 2) l a w := by
  have hH0 : Hp S w0 w (L ++ []) := by rw [List.append_nil]; exact hH
  refine Pend.fork2 hR0 (n := n + 1) (.x i) (.x j) rfl rfl trivial trivial r1 hall ?_ ?_
  · refine xi.here [] w hH0 _ fun v es w' hR hH' => ?_
    rw [List.append_nil] at hH'
    refine Pend.plan (n := n) hR0 hsel hQ [.x j] (i :: l) _ _ trivial (by simp [effects]) (by simp [marked]) p1 ?_
    exact xj.there v es w' hH' _ fun v' es' w'' hR' hH'' => h v es v' es' w'' hR hR' hH''
  · refine xj.here [] w hH0 _ fun v' es' w' hR' hH' => ?_
    rw [List.append_nil] at hH'
    refine Pend.plan (n := n) hR0 hsel hQ [.x i] (j :: l) _ _ trivial (by simp [effects]) (by simp [marked]) p2 ?_
    refine xi.there v' es' w' hH' _ fun v es w'' hR hH'' => ?_
    have h1 := h v es v' es' w'' hR hR' hH''.swap
    rw [Act.put_comm a v v' (by intro d h1 h2; cases h1; cases h2; exact hne rfl)] at h1
    exact h1.swap
def RBlk (T : Nat) (cs : Array Value) (f : Nat → Value) (v : Value) (es : List Own) : Prop := ∃ b, v = f b ∧ es = [(some b, T, cs)]
variable {i : Nat} {d dj : Tmp} {ty : TypeId} {pos : String} {af : Array Edge} {g : Option (Nat × Bool)} {x y : Operand} {t t' T : TypeId} {a : Act}
theorem xa_alloc {cs : Array Value} (ho : ops[i]? = some ⟨some d, .alloc t, ty, pos, af, g⟩) (hg : Region.wanted ⟨some d, .alloc t, ty, pos, af, g⟩ (yielded ops.toArray a.tmps) = true) (hz : zeroC P t = some cs) : XA P ops Q i d S w0 L (RBlk t cs fun b => PT b 0) a := fun L' w hH K h =>
  plan_alloc ho hg hH hz fun b w' hH' => fun w2 hw2 => h _ _ w2 ⟨b, rfl, rfl⟩ (hH'.call hw2)
theorem xs_alloc {cs : Array Value} (ho : ops[i]? = some ⟨some d, .alloc t, ty, pos, af, g⟩) (hg : Region.wanted ⟨some d, .alloc t, ty, pos, af, g⟩ (yielded ops.toArray a.tmps) = true) (hg' : ∀ u, Region.wanted ⟨some d, .alloc t, ty, pos, af, g⟩ (yielded ops.toArray (a.put (some dj) u).tmps) = true) (hz : zeroC P t = some cs) : XS P ops Q i d dj S w0 L (RBlk t cs fun b => PT b 0) a :=
  ⟨xa_alloc ho hg hz, fun u => xa_alloc ho (hg' u) hz⟩
end
end Go.Proofs.YtdkjdioccpoacaaDoor
set_option linter.unusedSimpArgs false
set_option linter.unusedVariables false
namespace Go.Proofs.YtdkjdioccpoacaaDoor
open Go
section
variable {P : Program} {ops : Array Oper} {Q : Exit → Act → World → Prop} {md : Region.Mode} {E M : List Nat} {R0 : World → World → Prop}
theorem Pend.forkL (hR0 : Far R0) {n : Nat} {l : List Nat} {a : Act} {w : World} (s0 : PStep) (ss : List PStep) (r1 : readyAt (tabOf md ops) l s0.idx = true) (hall : amongst l (ss.map PStep.idx) (tabOf md ops) 0 = true)
    (h : ∀ s ∈ ss, lonely E M s = true ∧ AllR R0 [s] ∧ wpPlan P ops (QK Q (Pend P md ops Q E M R0 n (s.idx :: l))) [s] a w) : Pend P md ops Q E M R0 (n + 1) l a w := by
  intro fuel L hR hn
  obtain ⟨fuel, rfl⟩ : ∃ m, fuel = m + 1 := ⟨fuel - 1, by omega⟩
  have hmem : s0.idx ∈ Region.ready md ops L := by
    unfold readyAt at r1
    cases ht : (tabOf md ops)[s0.idx]? with
    | none => rw [ht] at r1; cases r1
    | some rr =>
      rw [ht] at r1
      obtain ⟨o, ho, rfl⟩ := tab_get' ht
      simp only [Bool.and_eq_true, Bool.not_eq_true'] at r1
      exact (ready_iff hR).2 ⟨r1.1, o, ho, r1.2⟩
  intro w1 hw1
  refine ⟨fun h0 => (by rw [h0] at hmem; cases hmem), fun j hj => ?_⟩
  obtain ⟨hj0, oj, hoj, hjs⟩ := (ready_iff hR).1 hj
  have hin := amongst_spec _ 0 hall j _ (tab_get hoj) (by simpa using hj0) hjs
  have hj2 : j ∈ ss.map PStep.idx := by
    have := List.contains_iff_mem.1 hin
    simpa using this
  obtain ⟨s, hs, rfl⟩ := List.mem_map.1 hj2
  obtain ⟨c, A, hp⟩ := h s hs
  exact wpOp_mono (fun a' w' h' => ⟨h'.1, h'.2 fuel _ (hR.cons (lt_of_get hoj)) (by omega)⟩) (step_eff hR0 s c A hp w1 hw1)
theorem Pend.fork3 (hR0 : Far R0) {n : Nat} {l : List Nat} {a : Act} {w : World} (s1 s2 s3 : PStep) (c1 : lonely E M s1 = true) (c2 : lonely E M s2 = true) (c3 : lonely E M s3 = true) (A1 : AllR R0 [s1]) (A2 : AllR R0 [s2]) (A3 : AllR R0 [s3]) (r1 : readyAt (tabOf md ops) l s1.idx = true) (hall : amongst l [s1.idx, s2.idx, s3.idx] (tabOf md ops) 0 = true)
    (h1 : wpPlan P ops (QK Q (Pend P md ops Q E M R0 n (s1.idx :: l))) [s1] a w) (h2 : wpPlan P ops (QK Q (Pend P md ops Q E M R0 n (s2.idx :: l))) [s2] a w) (h3 : wpPlan P ops (QK Q (Pend P md ops Q E M R0 n (s3.idx :: l))) [s3] a w) : Pend P md ops Q E M R0 (n + 1) l a w :=
  Pend.forkL hR0 s1 [s1, s2, s3] r1 hall fun s hs => by
    simp only [List.mem_cons, List.not_mem_nil, or_false] at hs
    rcases hs with rfl | rfl | rfl
    · exact ⟨c1, A1, h1⟩
    · exact ⟨c2, A2, h2⟩
    · exact ⟨c3, A3, h3⟩
theorem Pend.fork4 (hR0 : Far R0) {n : Nat} {l : List Nat} {a : Act} {w : World} (s1 s2 s3 s4 : PStep) (c1 : lonely E M s1 = true) (c2 : lonely E M s2 = true) (c3 : lonely E M s3 = true) (c4 : lonely E M s4 = true) (A1 : AllR R0 [s1]) (A2 : AllR R0 [s2]) (A3 : AllR R0 [s3]) (A4 : AllR R0 [s4]) (r1 : readyAt (tabOf md ops) l s1.idx = true) (hall : amongst l [s1.idx, s2.idx, s3.idx, s4.idx] (tabOf md ops) 0 = true)
    (h1 : wpPlan P ops (QK Q (Pend P md ops Q E M R0 n (s1.idx :: l))) [s1] a w) (h2 : wpPlan P ops (QK Q (Pend P md ops Q E M R0 n (s2.idx :: l))) [s2] a w) (h3 : wpPlan P ops (QK Q (Pend P md ops Q E M R0 n (s3.idx :: l))) [s3] a w) (h4 : wpPlan P ops (QK Q (Pend P md ops Q E M R0 n (s4.idx :: l))) [s4] a w) : Pend P md ops Q E M R0 (n + 1) l a w :=
  Pend.forkL hR0 s1 [s1, s2, s3, s4] r1 hall fun s hs => by
    simp only [List.mem_cons, List.not_mem_nil, or_false] at hs
    rcases hs with rfl | rfl | rfl | rfl
    · exact ⟨c1, A1, h1⟩
    · exact ⟨c2, A2, h2⟩
    · exact ⟨c3, A3, h3⟩
    · exact ⟨c4, A4, h4⟩
end
section
variable {P : Program} {ops : List Oper} {Q : Exit → Act → World → Prop} {r : List PStep} {a : Act} {w : World} {i : Nat} {S : List Nat} {w0 : World} {L : List Own} {v : Value} {o : Oper}
theorem plan_xl (ho : ops[i]? = some o) (hg : Region.wanted o (yielded ops.toArray a.tmps) = true) (hH : Hp S w0 w L) (hl : ∀ w1, Hp S w0 w1 L → LRun P o a w1 v) (h : ∀ w1, Hp S w0 w1 L → wpPlan P ops.toArray Q r (a.put o.dst v) w1) : wpPlan P ops.toArray Q (.x i :: r) a w := fun w1 hw => by
  unfold wpOp
  simp only [at_list ho, hg, if_true]
  refine .inl ?_
  unfold Oper.wp
  rw [hl w1 (hH.call hw), Oper.upon_value]
  exact ⟨.refl _ _, h w1 (hH.call hw)⟩
section
variable {d : Option Tmp} {ty : TypeId} {pos : String} {af : Array Edge} {g : Option (Nat × Bool)} {x y : Operand} {t T : TypeId} {N : Nat}
theorem rr_loadNW {D : TypeDesc} {b n : Nat} {cs : Array Value} (hb : Blk w b T cs) (hN : b < N) (hx : a.eval x = PT b 0) (hu : P.underlying t = some D) (hD : isAggD D = true) (hs : szc P t = some n) (hn : cs.size = n) : RRun P ⟨d, .load t x, ty, pos, af, g⟩ a (ChgN N) w (.agg cs) :=
  .of_l fun w' hw => lr_loadW hx (hw.blk hb hN) hu hD hs hn
theorem plan_allocN {dst : Tmp} {cs : Array Value} (ho : ops[i]? = some ⟨some dst, .alloc t, ty, pos, af, g⟩) (hg : Region.wanted ⟨some dst, .alloc t, ty, pos, af, g⟩ (yielded ops.toArray a.tmps) = true) (hNw : N ≤ w.heap.size)
    (hH : Hp S w0 w L) (hz : zeroC P t = some cs) (h : ∀ b w', N ≤ w'.heap.size → N ≤ b → Hp S w0 w' (L ++ [(some b, t, cs)]) → wpPlan P ops.toArray Q r (a.put (some dst) (PT b 0)) w') : wpPlan P ops.toArray Q (.x i :: r) a w := fun w1 hw => by
  have hN1 : N ≤ w1.heap.size := Nat.le_trans hNw hw.size
  have hr : (execOp a.eval ⟨some dst, .alloc t, ty, pos, af, g⟩).run P w1 = .ok (.value (PT w1.heap.size 0)) (w1.alloc (.cells cs t)) := by
    unfold zeroC at hz
    obtain ⟨z, hz1, rfl⟩ := Option.map_eq_some_iff.1 hz
    obtain ⟨inf, hi, hz2⟩ := Option.bind_eq_some_iff.1 hz1
    simp [execOp, Instr.alloc, zeroValue, typeInfo, hi, hz2, newVar, newRow]
  unfold wpOp
  simp only [at_list ho, hg, if_true]
  refine .inl ?_
  unfold Oper.wp
  rw [hr, Oper.upon_value]
  have hc : Chg [] w1 (w1.alloc (.cells cs t)) := (Chg.refl _ _).alloc _
  exact ⟨hc, h _ _ (Nat.le_trans hN1 hc.size) hN1 ((hH.call hw).alloc t cs)⟩
theorem plan_storeWN (n : Nat) {b m : Nat} {cs vs : Array Value} (ho : ops[i]? = some ⟨none, .store t x y, ty, pos, af, g⟩) (hg : Region.wanted ⟨none, .store t x y, ty, pos, af, g⟩ (yielded ops.toArray a.tmps) = true) (hNw : N ≤ w.heap.size)
    (hH : Hp S w0 w L) (hx : a.eval x = PT b 0) (hi : L[n]? = some (some b, T, cs)) (hy : a.eval y = .agg vs) (h1 : ∀ v ∈ vs.toList, v.oneCell' = true) (hs : szc P t = some m) (hm : vs.size = m) (hlt : cs.size = m) (hb : N ≤ b)
    (h : ∀ w', N ≤ w'.heap.size → Hp S w0 w' (L.set n (some b, T, vs)) → wpPlan P ops.toArray Q r a w') : wpPlan P ops.toArray Q (.s i (ChgN N) :: r) a w := fun w1 hw1 => by
  have hN1 : N ≤ w1.heap.size := Nat.le_trans hNw hw1.size
  have hH := hH.call hw1
  have hbk := hH.blk n hi
  obtain ⟨w', hr, hB, hoth, hsz, e1, e2, e3⟩ := run_storeCells_blk (P := P) vs.toList 0 0 w1 cs hbk (by simp; omega) h1
  have hrun : (execOp a.eval ⟨none, .store t x y, ty, pos, af, g⟩).run P w1 = .ok .skip w' := by
    simp [execOp, hx, hy, Instr.storeAt, Instr.sureAddr, storeVar, run_sizeOf hs, Value.cells, hm, hr]
  have hc : Chg [b] w1 w' := ⟨e1, e2, e3, by omega, fun k hk hn => hoth k (by simpa using hn)⟩
  have hH' : Hp S w0 w' (L.set n (some b, T, vs)) := by
    have := hH.put n hi (hH.chg.trans' hc ?_) (by simpa using hB) fun k hk _ => hoth k hk
    · rwa [splice_all (by omega)] at this
    · intro z hz hlt
      simp only [List.mem_singleton] at hz
      subst hz
      rcases hH.mine n hi with h1 | h1
      · omega
      · exact h1
  unfold wpOp
  simp only [at_list ho, hg, if_true]
  refine .inl ?_
  unfold Oper.wp
  rw [hrun]
  exact ⟨.of_chg hc (by simpa using hb), h w' (by omega) hH'⟩
end
theorem filterMap_range {α : Type} (L : List α) : (List.range L.length).filterMap (fun i => L[i]?) = L := by
  apply List.ext_getElem?
  intro i
  induction L generalizing i with
  | nil => rfl
  | cons x xs ih =>
    rw [List.length_cons, List.range_succ_eq_map, List.filterMap_cons]
    simp only [List.getElem?_cons_zero, List.filterMap_map, Function.comp_def, List.getElem?_cons_succ]
    cases i with
    | zero => rfl
    | succ i => rw [List.getElem?_cons_succ, List.getElem?_cons_succ]; exact ih i
theorem Hp.idx {L' : List Own} (h : Hp S w0 w L) (p : List Nat) (m : Nat) (hm : L.length = m) (hp : p.Perm (List.range m)) (e : p.filterMap (fun i => L[i]?) = L') : Hp S w0 w L' := by
  subst e hm
  refine h.perm ?_
  have := hp.filterMap (fun i => L[i]?)
  rw [filterMap_range] at this
  exact this.symm
def Imp (A B : Prop) : Prop := A → B
theorem rest4 {A B : Prop} {H K : Nat → Nat → Nat → Nat → World → Prop} (h : (∀ a b c d w, H a b c d w → K a b c d w) → A → B) (ha : ∀ a b c d w, H a b c d w → K a b c d w) : Imp A B := h ha
end
end Go.Proofs.YtdkjdioccpoacaaDoor
