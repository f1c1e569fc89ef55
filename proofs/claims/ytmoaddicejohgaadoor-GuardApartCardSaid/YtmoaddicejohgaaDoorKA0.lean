/- Packed: Vals, Mem, Plan, Run, Int, Step, Sl, Arr, Facts, More, Builds, Sha0, Fork, OwnD, Aes0, as far as guardApartCard_holds needs them. No conditions but those that stand in the statements. -/
import Derived.WalkKit
import Derived.OrdersHeld
import Derived.Deep.Quiet
import Derived.Tactics2
import Derived.KernelRfl
import Derived.LaidEql
import Derived.Laws.BytesArg
import Derived.ChangeKeysEq
import Derived.Test.YtmoaddicejohgaaDoorProg
set_option linter.unusedSimpArgs false
set_option linter.unusedVariables false
namespace Go.Proofs.YtmoaddicejohgaaDoor
open Go
abbrev BV (b : Bool) : Value := .bool b
abbrev I64 (n : Int) : Value := .int .i64 n
abbrev PT (b o : Nat) : Value := .pointer (some ⟨b, o, none⟩)
def Bin (P : Program) (op : BinOp) (t : TypeId) (x y : Operand) (vx vy v : Value) : Prop := ∀ w, (do eqGuard op t x y vx vy; binOp op t vx vy : Sem Value).run P w = .ok v w
def Cnv (P : Program) (s d : TypeId) (vx v : Value) : Prop := ∀ w, (convert s d vx).run P w = .ok v w
theorem run_eqGuard_int (P : Program) (op : BinOp) (t : TypeId) (x y : Operand) (k : IntKind) (m : Int) (v : Value) (w : World) : (eqGuard op t x y (.int k m) v).run P w = .ok () w := by
  unfold eqGuard; cases op <;> rfl
theorem run_eqGuard_string (P : Program) (op : BinOp) (t : TypeId) (x y : Operand) (b : ByteArray) (v : Value) (w : World) : (eqGuard op t x y (.string b) v).run P w = .ok () w := by
  unfold eqGuard; cases op <;> rfl
theorem run_eqGuard_pointer (P : Program) (op : BinOp) (t : TypeId) (x y : Operand) (b : Option Addr) (v : Value) (w : World) : (eqGuard op t x y (.pointer b) v).run P w = .ok () w := by
  unfold eqGuard; cases op <;> rfl
theorem bin_of_int {P : Program} {op : BinOp} {t : TypeId} {x y : Operand} {k : IntKind} {m : Int} {vy v : Value} (h : ∀ w, (binOp op t (.int k m) vy).run P w = .ok v w) : Bin P op t x y (.int k m) vy v := fun w => by
  rw [Sem.run_bind, run_eqGuard_int]; exact h w
theorem bin_of_string {P : Program} {op : BinOp} {t : TypeId} {x y : Operand} {b : ByteArray} {vy v : Value} (h : ∀ w, (binOp op t (.string b) vy).run P w = .ok v w) : Bin P op t x y (.string b) vy v := fun w => by
  rw [Sem.run_bind, run_eqGuard_string]; exact h w
theorem bin_of_pointer {P : Program} {op : BinOp} {t : TypeId} {x y : Operand} {b : Option Addr} {vy v : Value} (h : ∀ w, (binOp op t (.pointer b) vy).run P w = .ok v w) : Bin P op t x y (.pointer b) vy v := fun w => by
  rw [Sem.run_bind, run_eqGuard_pointer]; exact h w
section
variable {P : Program} {t ty : TypeId} {x y : Operand}
theorem ofInt_nat (w n : Nat) : BitVec.ofInt w (n : Int) = BitVec.ofNat w n := by
  apply BitVec.eq_of_toNat_eq; simp
abbrev V8 (x : UInt8) : Value := .int .u8 ((x.toNat : Nat) : Int)
theorem wrap_u8 (n : Nat) : IntKind.u8.wrap (n : Int) = ((n % 256 : Nat) : Int) := by simp [IntKind.wrap, IntKind.bits, IntKind.signed]
theorem lt_u8 (x : UInt8) : x.toNat < 256 := x.toNat_lt
theorem bin_xor_u8 (a b : UInt8) : Bin P .xor t x y (V8 a) (V8 b) (V8 (a ^^^ b)) := bin_of_int fun w => by
  simp only [binOp, Op.intBits, ofInt_nat]
  have h : (IntKind.u8.wrap (((BitVec.ofNat 8 a.toNat) ^^^ (BitVec.ofNat 8 b.toNat)).toNat : Int)) = (((a ^^^ b).toNat : Nat) : Int) := by
    rw [wrap_u8]; congr 1
    have ha := lt_u8 a; have hb := lt_u8 b
    rw [BitVec.toNat_xor, BitVec.toNat_ofNat, BitVec.toNat_ofNat, Nat.mod_eq_of_lt ha, Nat.mod_eq_of_lt hb, UInt8.toNat_xor]
    exact Nat.mod_eq_of_lt (Nat.xor_lt_two_pow (n := 8) ha hb)
  show Result.ok (Value.int .u8 (IntKind.u8.wrap (((BitVec.ofNat 8 a.toNat) ^^^ (BitVec.ofNat 8 b.toNat)).toNat : Int))) w = _
  rw [h]
theorem bin_and_u8 (a b : UInt8) : Bin P .and t x y (V8 a) (V8 b) (V8 (a &&& b)) := bin_of_int fun w => by
  simp only [binOp, Op.intBits, ofInt_nat]
  have h : (IntKind.u8.wrap (((BitVec.ofNat 8 a.toNat) &&& (BitVec.ofNat 8 b.toNat)).toNat : Int)) = (((a &&& b).toNat : Nat) : Int) := by
    rw [wrap_u8]; congr 1
    have ha := lt_u8 a; have hb := lt_u8 b
    rw [BitVec.toNat_and, BitVec.toNat_ofNat, BitVec.toNat_ofNat, Nat.mod_eq_of_lt ha, Nat.mod_eq_of_lt hb, UInt8.toNat_and]
    exact Nat.mod_eq_of_lt (Nat.and_lt_two_pow (n := 8) _ hb)
  show Result.ok (Value.int .u8 (IntKind.u8.wrap (((BitVec.ofNat 8 a.toNat) &&& (BitVec.ofNat 8 b.toNat)).toNat : Int))) w = _
  rw [h]
theorem bin_or_u8 (a b : UInt8) : Bin P .or t x y (V8 a) (V8 b) (V8 (a ||| b)) := bin_of_int fun w => by
  simp only [binOp, Op.intBits, ofInt_nat]
  have h : (IntKind.u8.wrap (((BitVec.ofNat 8 a.toNat) ||| (BitVec.ofNat 8 b.toNat)).toNat : Int)) = (((a ||| b).toNat : Nat) : Int) := by
    rw [wrap_u8]; congr 1
    have ha := lt_u8 a; have hb := lt_u8 b
    rw [BitVec.toNat_or, BitVec.toNat_ofNat, BitVec.toNat_ofNat, Nat.mod_eq_of_lt ha, Nat.mod_eq_of_lt hb, UInt8.toNat_or]
    exact Nat.mod_eq_of_lt (Nat.or_lt_two_pow (n := 8) ha hb)
  show Result.ok (Value.int .u8 (IntKind.u8.wrap (((BitVec.ofNat 8 a.toNat) ||| (BitVec.ofNat 8 b.toNat)).toNat : Int))) w = _
  rw [h]
theorem bin_add_u8 (a b : UInt8) : Bin P .add t x y (V8 a) (V8 b) (V8 (a + b)) := bin_of_int fun w => by
  show Result.ok (Value.int .u8 (IntKind.u8.wrap ((a.toNat : Int) + (b.toNat : Int)))) w = _
  rw [show ((a.toNat : Int) + (b.toNat : Int)) = ((a.toNat + b.toNat : Nat) : Int) by simp, wrap_u8]
  show Result.ok (Value.int .u8 ((((a.toNat + b.toNat) % 256 : Nat)) : Int)) w = Result.ok (Value.int .u8 (((a + b).toNat : Nat) : Int)) w
  rw [UInt8.toNat_add]
theorem bin_mul_u8 (a b : UInt8) : Bin P .mul t x y (V8 a) (V8 b) (V8 (a * b)) := bin_of_int fun w => by
  show Result.ok (Value.int .u8 (IntKind.u8.wrap ((a.toNat : Int) * (b.toNat : Int)))) w = _
  rw [show ((a.toNat : Int) * (b.toNat : Int)) = ((a.toNat * b.toNat : Nat) : Int) by simp, wrap_u8]
  show Result.ok (Value.int .u8 ((((a.toNat * b.toNat) % 256 : Nat)) : Int)) w = Result.ok (Value.int .u8 (((a * b).toNat : Nat) : Int)) w
  rw [UInt8.toNat_mul]
theorem bin_shl_u8 (a : UInt8) (k : IntKind) (c : Nat) : Bin P .shl t x y (V8 a) (.int k (c : Int)) (V8 (if c < 8 then a <<< UInt8.ofNat c else 0)) := bin_of_int fun w => by
  have h0 : ¬ ((c : Int) < 0) := by omega
  show ((Op.shift .shl .u8 (a.toNat : Int) k (c : Int))).run P w = _
  have h : IntKind.u8.wrap ((a.toNat : Int) * 2 ^ (min c 8)) = (((if c < 8 then a <<< UInt8.ofNat c else 0).toNat : Nat) : Int) := by
    have e : (a.toNat : Int) * 2 ^ (min c 8) = ((a.toNat * 2 ^ (min c 8) : Nat) : Int) := by simp
    rw [e, wrap_u8]
    congr 1
    split
    · rename_i hc
      rw [Nat.min_eq_left (by omega), UInt8.toNat_shiftLeft, UInt8.toNat_ofNat', Nat.shiftLeft_eq]
      have hm : c % 256 % 8 = c := by rw [Nat.mod_eq_of_lt (a := c) (b := 256) (by omega)]; exact Nat.mod_eq_of_lt hc
      simp only [Nat.reducePow, hm]
    · rename_i hc
      rw [Nat.min_eq_right (by omega)]
      simp
  simp only [Op.shift, h0, if_false, Int.toNat_natCast, IntKind.bits, h]
  rfl
theorem bin_shr_u8 (a : UInt8) (k : IntKind) (c : Nat) : Bin P .shr t x y (V8 a) (.int k (c : Int)) (V8 (if c < 8 then a >>> UInt8.ofNat c else 0)) := bin_of_int fun w => by
  have h0 : ¬ ((c : Int) < 0) := by omega
  show ((Op.shift .shr .u8 (a.toNat : Int) k (c : Int))).run P w = _
  have h : Int.fdiv (a.toNat : Int) (2 ^ (min c 8)) = (((if c < 8 then a >>> UInt8.ofNat c else 0).toNat : Nat) : Int) := by
    have e : Int.fdiv (a.toNat : Int) (2 ^ (min c 8)) = ((a.toNat / 2 ^ (min c 8) : Nat) : Int) := by
      rw [show ((2 : Int) ^ (min c 8)) = ((2 ^ (min c 8) : Nat) : Int) by simp]
      rw [Int.natCast_ediv, Int.fdiv_eq_ediv_of_nonneg _ (Int.natCast_nonneg _)]
    rw [e]
    congr 1
    split
    · rename_i hc
      rw [Nat.min_eq_left (by omega), UInt8.toNat_shiftRight, UInt8.toNat_ofNat', Nat.shiftRight_eq_div_pow]
      have hm : c % 256 % 8 = c := by rw [Nat.mod_eq_of_lt (a := c) (b := 256) (by omega)]; exact Nat.mod_eq_of_lt hc
      simp only [Nat.reducePow, hm]
    · rename_i hc
      rw [Nat.min_eq_right (by omega)]
      have := lt_u8 a
      simp only [Nat.reducePow] at this ⊢
      rw [Nat.div_eq_of_lt this]; rfl
  simp only [Op.shift, h0, if_false, Int.toNat_natCast, IntKind.bits, h]
  rfl
theorem bin_shlc_u8 (c : Nat) (s : UInt8) (hc : c < 8) (hs : UInt8.ofNat c = s) (a : UInt8) {k : IntKind} : Bin P .shl t x y (V8 a) (.int k (c : Int)) (V8 (a <<< s)) := by
  have h := bin_shl_u8 (P := P) (t := t) (x := x) (y := y) a k c
  rw [if_pos hc, hs] at h
  exact h
theorem bin_shrc_u8 (c : Nat) (s : UInt8) (hc : c < 8) (hs : UInt8.ofNat c = s) (a : UInt8) {k : IntKind} : Bin P .shr t x y (V8 a) (.int k (c : Int)) (V8 (a >>> s)) := by
  have h := bin_shr_u8 (P := P) (t := t) (x := x) (y := y) a k c
  rw [if_pos hc, hs] at h
  exact h
theorem bin_quo_u8 (a b : UInt8) (hb : b ≠ 0) : Bin P .quo t x y (V8 a) (V8 b) (V8 (a / b)) := bin_of_int fun w => by
  have h0 : ¬ ((b.toNat : Int) = 0) := fun h => hb (UInt8.toNat_inj.1 (by simpa using h))
  show (Op.intDiv .quo .u8 (a.toNat : Int) (b.toNat : Int)).run P w = _
  have e : (a.toNat : Int).tdiv b.toNat = ((a.toNat / b.toNat : Nat) : Int) := by simp
  simp only [Op.intDiv, h0, if_false, e]
  show Result.ok (Value.int .u8 (IntKind.u8.wrap ((a.toNat / b.toNat : Nat) : Int))) w = _
  rw [wrap_u8, Nat.mod_eq_of_lt (Nat.lt_of_le_of_lt (Nat.div_le_self _ _) (lt_u8 a)), ← UInt8.toNat_div]
theorem bin_eql_u8 (a b : UInt8) : Bin P .eql t x y (V8 a) (V8 b) (BV (a == b)) := bin_of_int fun w => by
  show Result.ok (Value.bool ((a.toNat : Int) == (b.toNat : Int))) w = _
  have h : ((a.toNat : Int) == (b.toNat : Int)) = (a == b) := by rw [Bool.eq_iff_iff]; simp [← UInt8.toNat_inj]; omega
  rw [h]
theorem bin_neq_u8 (a b : UInt8) : Bin P .neq t x y (V8 a) (V8 b) (BV (a != b)) := bin_of_int fun w => by
  show Result.ok (Value.bool ((a.toNat : Int) != (b.toNat : Int))) w = _
  have h : ((a.toNat : Int) != (b.toNat : Int)) = (a != b) := by rw [Bool.eq_iff_iff]; simp [← UInt8.toNat_inj]; omega
  rw [h]
abbrev V32 (x : UInt32) : Value := .int .u32 ((x.toNat : Nat) : Int)
theorem wrap_u32 (n : Nat) : IntKind.u32.wrap (n : Int) = ((n % 4294967296 : Nat) : Int) := by simp [IntKind.wrap, IntKind.bits, IntKind.signed]
theorem lt_u32 (x : UInt32) : x.toNat < 4294967296 := x.toNat_lt
theorem bin_xor_u32 (a b : UInt32) : Bin P .xor t x y (V32 a) (V32 b) (V32 (a ^^^ b)) := bin_of_int fun w => by
  simp only [binOp, Op.intBits, ofInt_nat]
  have h : (IntKind.u32.wrap (((BitVec.ofNat 32 a.toNat) ^^^ (BitVec.ofNat 32 b.toNat)).toNat : Int)) = (((a ^^^ b).toNat : Nat) : Int) := by
    rw [wrap_u32]; congr 1
    have ha := lt_u32 a; have hb := lt_u32 b
    rw [BitVec.toNat_xor, BitVec.toNat_ofNat, BitVec.toNat_ofNat, Nat.mod_eq_of_lt ha, Nat.mod_eq_of_lt hb, UInt32.toNat_xor]
    exact Nat.mod_eq_of_lt (Nat.xor_lt_two_pow (n := 32) ha hb)
  show Result.ok (Value.int .u32 (IntKind.u32.wrap (((BitVec.ofNat 32 a.toNat) ^^^ (BitVec.ofNat 32 b.toNat)).toNat : Int))) w = _
  rw [h]
theorem bin_and_u32 (a b : UInt32) : Bin P .and t x y (V32 a) (V32 b) (V32 (a &&& b)) := bin_of_int fun w => by
  simp only [binOp, Op.intBits, ofInt_nat]
  have h : (IntKind.u32.wrap (((BitVec.ofNat 32 a.toNat) &&& (BitVec.ofNat 32 b.toNat)).toNat : Int)) = (((a &&& b).toNat : Nat) : Int) := by
    rw [wrap_u32]; congr 1
    have ha := lt_u32 a; have hb := lt_u32 b
    rw [BitVec.toNat_and, BitVec.toNat_ofNat, BitVec.toNat_ofNat, Nat.mod_eq_of_lt ha, Nat.mod_eq_of_lt hb, UInt32.toNat_and]
    exact Nat.mod_eq_of_lt (Nat.and_lt_two_pow (n := 32) _ hb)
  show Result.ok (Value.int .u32 (IntKind.u32.wrap (((BitVec.ofNat 32 a.toNat) &&& (BitVec.ofNat 32 b.toNat)).toNat : Int))) w = _
  rw [h]
theorem bin_or_u32 (a b : UInt32) : Bin P .or t x y (V32 a) (V32 b) (V32 (a ||| b)) := bin_of_int fun w => by
  simp only [binOp, Op.intBits, ofInt_nat]
  have h : (IntKind.u32.wrap (((BitVec.ofNat 32 a.toNat) ||| (BitVec.ofNat 32 b.toNat)).toNat : Int)) = (((a ||| b).toNat : Nat) : Int) := by
    rw [wrap_u32]; congr 1
    have ha := lt_u32 a; have hb := lt_u32 b
    rw [BitVec.toNat_or, BitVec.toNat_ofNat, BitVec.toNat_ofNat, Nat.mod_eq_of_lt ha, Nat.mod_eq_of_lt hb, UInt32.toNat_or]
    exact Nat.mod_eq_of_lt (Nat.or_lt_two_pow (n := 32) ha hb)
  show Result.ok (Value.int .u32 (IntKind.u32.wrap (((BitVec.ofNat 32 a.toNat) ||| (BitVec.ofNat 32 b.toNat)).toNat : Int))) w = _
  rw [h]
theorem bin_add_u32 (a b : UInt32) : Bin P .add t x y (V32 a) (V32 b) (V32 (a + b)) := bin_of_int fun w => by
  show Result.ok (Value.int .u32 (IntKind.u32.wrap ((a.toNat : Int) + (b.toNat : Int)))) w = _
  rw [show ((a.toNat : Int) + (b.toNat : Int)) = ((a.toNat + b.toNat : Nat) : Int) by simp, wrap_u32]
  show Result.ok (Value.int .u32 ((((a.toNat + b.toNat) % 4294967296 : Nat)) : Int)) w = Result.ok (Value.int .u32 (((a + b).toNat : Nat) : Int)) w
  rw [UInt32.toNat_add]
theorem bin_shl_u32 (a : UInt32) (k : IntKind) (c : Nat) : Bin P .shl t x y (V32 a) (.int k (c : Int)) (V32 (if c < 32 then a <<< UInt32.ofNat c else 0)) := bin_of_int fun w => by
  have h0 : ¬ ((c : Int) < 0) := by omega
  show ((Op.shift .shl .u32 (a.toNat : Int) k (c : Int))).run P w = _
  have h : IntKind.u32.wrap ((a.toNat : Int) * 2 ^ (min c 32)) = (((if c < 32 then a <<< UInt32.ofNat c else 0).toNat : Nat) : Int) := by
    have e : (a.toNat : Int) * 2 ^ (min c 32) = ((a.toNat * 2 ^ (min c 32) : Nat) : Int) := by simp
    rw [e, wrap_u32]
    congr 1
    split
    · rename_i hc
      rw [Nat.min_eq_left (by omega), UInt32.toNat_shiftLeft, UInt32.toNat_ofNat', Nat.shiftLeft_eq]
      have hm : c % 4294967296 % 32 = c := by rw [Nat.mod_eq_of_lt (a := c) (b := 4294967296) (by omega)]; exact Nat.mod_eq_of_lt hc
      simp only [Nat.reducePow, hm]
    · rename_i hc
      rw [Nat.min_eq_right (by omega)]
      simp
  simp only [Op.shift, h0, if_false, Int.toNat_natCast, IntKind.bits, h]
  rfl
theorem bin_shr_u32 (a : UInt32) (k : IntKind) (c : Nat) : Bin P .shr t x y (V32 a) (.int k (c : Int)) (V32 (if c < 32 then a >>> UInt32.ofNat c else 0)) := bin_of_int fun w => by
  have h0 : ¬ ((c : Int) < 0) := by omega
  show ((Op.shift .shr .u32 (a.toNat : Int) k (c : Int))).run P w = _
  have h : Int.fdiv (a.toNat : Int) (2 ^ (min c 32)) = (((if c < 32 then a >>> UInt32.ofNat c else 0).toNat : Nat) : Int) := by
    have e : Int.fdiv (a.toNat : Int) (2 ^ (min c 32)) = ((a.toNat / 2 ^ (min c 32) : Nat) : Int) := by
      rw [show ((2 : Int) ^ (min c 32)) = ((2 ^ (min c 32) : Nat) : Int) by simp]
      rw [Int.natCast_ediv, Int.fdiv_eq_ediv_of_nonneg _ (Int.natCast_nonneg _)]
    rw [e]
    congr 1
    split
    · rename_i hc
      rw [Nat.min_eq_left (by omega), UInt32.toNat_shiftRight, UInt32.toNat_ofNat', Nat.shiftRight_eq_div_pow]
      have hm : c % 4294967296 % 32 = c := by rw [Nat.mod_eq_of_lt (a := c) (b := 4294967296) (by omega)]; exact Nat.mod_eq_of_lt hc
      simp only [Nat.reducePow, hm]
    · rename_i hc
      rw [Nat.min_eq_right (by omega)]
      have := lt_u32 a
      simp only [Nat.reducePow] at this ⊢
      rw [Nat.div_eq_of_lt this]; rfl
  simp only [Op.shift, h0, if_false, Int.toNat_natCast, IntKind.bits, h]
  rfl
theorem bin_shlc_u32 (c : Nat) (s : UInt32) (hc : c < 32) (hs : UInt32.ofNat c = s) (a : UInt32) {k : IntKind} : Bin P .shl t x y (V32 a) (.int k (c : Int)) (V32 (a <<< s)) := by
  have h := bin_shl_u32 (P := P) (t := t) (x := x) (y := y) a k c
  rw [if_pos hc, hs] at h
  exact h
theorem bin_shrc_u32 (c : Nat) (s : UInt32) (hc : c < 32) (hs : UInt32.ofNat c = s) (a : UInt32) {k : IntKind} : Bin P .shr t x y (V32 a) (.int k (c : Int)) (V32 (a >>> s)) := by
  have h := bin_shr_u32 (P := P) (t := t) (x := x) (y := y) a k c
  rw [if_pos hc, hs] at h
  exact h
abbrev V64 (x : UInt64) : Value := .int .u64 ((x.toNat : Nat) : Int)
theorem wrap_u64 (n : Nat) : IntKind.u64.wrap (n : Int) = ((n % 18446744073709551616 : Nat) : Int) := by simp [IntKind.wrap, IntKind.bits, IntKind.signed]
theorem lt_u64 (x : UInt64) : x.toNat < 18446744073709551616 := x.toNat_lt
theorem bin_xor_u64 (a b : UInt64) : Bin P .xor t x y (V64 a) (V64 b) (V64 (a ^^^ b)) := bin_of_int fun w => by
  simp only [binOp, Op.intBits, ofInt_nat]
  have h : (IntKind.u64.wrap (((BitVec.ofNat 64 a.toNat) ^^^ (BitVec.ofNat 64 b.toNat)).toNat : Int)) = (((a ^^^ b).toNat : Nat) : Int) := by
    rw [wrap_u64]; congr 1
    have ha := lt_u64 a; have hb := lt_u64 b
    rw [BitVec.toNat_xor, BitVec.toNat_ofNat, BitVec.toNat_ofNat, Nat.mod_eq_of_lt ha, Nat.mod_eq_of_lt hb, UInt64.toNat_xor]
    exact Nat.mod_eq_of_lt (Nat.xor_lt_two_pow (n := 64) ha hb)
  show Result.ok (Value.int .u64 (IntKind.u64.wrap (((BitVec.ofNat 64 a.toNat) ^^^ (BitVec.ofNat 64 b.toNat)).toNat : Int))) w = _
  rw [h]
theorem bin_and_u64 (a b : UInt64) : Bin P .and t x y (V64 a) (V64 b) (V64 (a &&& b)) := bin_of_int fun w => by
  simp only [binOp, Op.intBits, ofInt_nat]
  have h : (IntKind.u64.wrap (((BitVec.ofNat 64 a.toNat) &&& (BitVec.ofNat 64 b.toNat)).toNat : Int)) = (((a &&& b).toNat : Nat) : Int) := by
    rw [wrap_u64]; congr 1
    have ha := lt_u64 a; have hb := lt_u64 b
    rw [BitVec.toNat_and, BitVec.toNat_ofNat, BitVec.toNat_ofNat, Nat.mod_eq_of_lt ha, Nat.mod_eq_of_lt hb, UInt64.toNat_and]
    exact Nat.mod_eq_of_lt (Nat.and_lt_two_pow (n := 64) _ hb)
  show Result.ok (Value.int .u64 (IntKind.u64.wrap (((BitVec.ofNat 64 a.toNat) &&& (BitVec.ofNat 64 b.toNat)).toNat : Int))) w = _
  rw [h]
theorem bin_or_u64 (a b : UInt64) : Bin P .or t x y (V64 a) (V64 b) (V64 (a ||| b)) := bin_of_int fun w => by
  simp only [binOp, Op.intBits, ofInt_nat]
  have h : (IntKind.u64.wrap (((BitVec.ofNat 64 a.toNat) ||| (BitVec.ofNat 64 b.toNat)).toNat : Int)) = (((a ||| b).toNat : Nat) : Int) := by
    rw [wrap_u64]; congr 1
    have ha := lt_u64 a; have hb := lt_u64 b
    rw [BitVec.toNat_or, BitVec.toNat_ofNat, BitVec.toNat_ofNat, Nat.mod_eq_of_lt ha, Nat.mod_eq_of_lt hb, UInt64.toNat_or]
    exact Nat.mod_eq_of_lt (Nat.or_lt_two_pow (n := 64) ha hb)
  show Result.ok (Value.int .u64 (IntKind.u64.wrap (((BitVec.ofNat 64 a.toNat) ||| (BitVec.ofNat 64 b.toNat)).toNat : Int))) w = _
  rw [h]
theorem bin_sub_u64 (a b : UInt64) : Bin P .sub t x y (V64 a) (V64 b) (V64 (a - b)) := bin_of_int fun w => by
  show Result.ok (Value.int .u64 (IntKind.u64.wrap ((a.toNat : Int) - (b.toNat : Int)))) w = _
  have h : IntKind.u64.wrap ((a.toNat : Int) - (b.toNat : Int)) = (((a - b).toNat : Nat) : Int) := by
    have ha := lt_u64 a; have hb := lt_u64 b
    have hs : (a - b).toNat = (18446744073709551616 - b.toNat + a.toNat) % 18446744073709551616 := by rw [UInt64.toNat_sub]
    rw [hs]
    simp only [IntKind.wrap, IntKind.bits, IntKind.signed]
    simp
    omega
  rw [h]
theorem bin_shl_u64 (a : UInt64) (k : IntKind) (c : Nat) : Bin P .shl t x y (V64 a) (.int k (c : Int)) (V64 (if c < 64 then a <<< UInt64.ofNat c else 0)) := bin_of_int fun w => by
  have h0 : ¬ ((c : Int) < 0) := by omega
  show ((Op.shift .shl .u64 (a.toNat : Int) k (c : Int))).run P w = _
  have h : IntKind.u64.wrap ((a.toNat : Int) * 2 ^ (min c 64)) = (((if c < 64 then a <<< UInt64.ofNat c else 0).toNat : Nat) : Int) := by
    have e : (a.toNat : Int) * 2 ^ (min c 64) = ((a.toNat * 2 ^ (min c 64) : Nat) : Int) := by simp
    rw [e, wrap_u64]
    congr 1
    split
    · rename_i hc
      rw [Nat.min_eq_left (by omega), UInt64.toNat_shiftLeft, UInt64.toNat_ofNat', Nat.shiftLeft_eq]
      have hm : c % 18446744073709551616 % 64 = c := by rw [Nat.mod_eq_of_lt (a := c) (b := 18446744073709551616) (by omega)]; exact Nat.mod_eq_of_lt hc
      simp only [Nat.reducePow, hm]
    · rename_i hc
      rw [Nat.min_eq_right (by omega)]
      simp
  simp only [Op.shift, h0, if_false, Int.toNat_natCast, IntKind.bits, h]
  rfl
theorem bin_shr_u64 (a : UInt64) (k : IntKind) (c : Nat) : Bin P .shr t x y (V64 a) (.int k (c : Int)) (V64 (if c < 64 then a >>> UInt64.ofNat c else 0)) := bin_of_int fun w => by
  have h0 : ¬ ((c : Int) < 0) := by omega
  show ((Op.shift .shr .u64 (a.toNat : Int) k (c : Int))).run P w = _
  have h : Int.fdiv (a.toNat : Int) (2 ^ (min c 64)) = (((if c < 64 then a >>> UInt64.ofNat c else 0).toNat : Nat) : Int) := by
    have e : Int.fdiv (a.toNat : Int) (2 ^ (min c 64)) = ((a.toNat / 2 ^ (min c 64) : Nat) : Int) := by
      rw [show ((2 : Int) ^ (min c 64)) = ((2 ^ (min c 64) : Nat) : Int) by simp]
      rw [Int.natCast_ediv, Int.fdiv_eq_ediv_of_nonneg _ (Int.natCast_nonneg _)]
    rw [e]
    congr 1
    split
    · rename_i hc
      rw [Nat.min_eq_left (by omega), UInt64.toNat_shiftRight, UInt64.toNat_ofNat', Nat.shiftRight_eq_div_pow]
      have hm : c % 18446744073709551616 % 64 = c := by rw [Nat.mod_eq_of_lt (a := c) (b := 18446744073709551616) (by omega)]; exact Nat.mod_eq_of_lt hc
      simp only [Nat.reducePow, hm]
    · rename_i hc
      rw [Nat.min_eq_right (by omega)]
      have := lt_u64 a
      simp only [Nat.reducePow] at this ⊢
      rw [Nat.div_eq_of_lt this]; rfl
  simp only [Op.shift, h0, if_false, Int.toNat_natCast, IntKind.bits, h]
  rfl
theorem bin_shlc_u64 (c : Nat) (s : UInt64) (hc : c < 64) (hs : UInt64.ofNat c = s) (a : UInt64) {k : IntKind} : Bin P .shl t x y (V64 a) (.int k (c : Int)) (V64 (a <<< s)) := by
  have h := bin_shl_u64 (P := P) (t := t) (x := x) (y := y) a k c
  rw [if_pos hc, hs] at h
  exact h
theorem bin_shrc_u64 (c : Nat) (s : UInt64) (hc : c < 64) (hs : UInt64.ofNat c = s) (a : UInt64) {k : IntKind} : Bin P .shr t x y (V64 a) (.int k (c : Int)) (V64 (a >>> s)) := by
  have h := bin_shr_u64 (P := P) (t := t) (x := x) (y := y) a k c
  rw [if_pos hc, hs] at h
  exact h
end
end Go.Proofs.YtmoaddicejohgaaDoor
set_option linter.unusedSimpArgs false
set_option linter.unusedVariables false
namespace Go.Proofs.YtmoaddicejohgaaDoor
open Go Go.RowKit
def tabV (n : Nat) (f : Nat → Value) : Array Value := ((List.range n).map f).toArray
@[simp] theorem tabV_size (n : Nat) (f : Nat → Value) : (tabV n f).size = n := by simp [tabV]
theorem tabV_get {n : Nat} {f : Nat → Value} {i : Nat} (h : i < n) : (tabV n f)[i]? = some (f i) := by simp [tabV, h]
theorem tabV_get_none {n : Nat} {f : Nat → Value} {i : Nat} (h : n ≤ i) : (tabV n f)[i]? = none := by simp [tabV, h]
theorem tabV_congr {n : Nat} {f g : Nat → Value} (h : ∀ i, i < n → f i = g i) : tabV n f = tabV n g := by
  unfold tabV; congr 1; exact List.map_congr_left fun i hi => h i (by simpa using hi)
theorem tabV_ext {n : Nat} {f : Nat → Value} {cs : Array Value} (hn : cs.size = n) (h : ∀ i, i < n → cs[i]? = some (f i)) : cs = tabV n f := by
  apply Array.ext_getElem?
  intro i
  by_cases hi : i < n
  · rw [h i hi, tabV_get hi]
  · rw [tabV_get_none (by omega)]; simp; omega
def upd {α : Type} (f : Nat → α) (k : Nat) (v : α) : Nat → α := fun i => if i = k then v else f i
@[simp] theorem upd_same {α : Type} (f : Nat → α) (k : Nat) (v : α) : upd f k v k = v := by simp [upd]
theorem upd_other {α : Type} (f : Nat → α) (k : Nat) (v : α) {i : Nat} (h : i ≠ k) : upd f k v i = f i := by simp [upd, h]
theorem upd_lt {α : Type} {g z : Nat → α} {k : Nat} {v : α} (h : v = g k) (i : Nat) : upd (fun i => if i < k then g i else z i) k v i = if i < k + 1 then g i else z i := by
  subst h
  simp only [upd]
  by_cases h : i = k
  · subst h; simp
  · rw [if_neg h]; by_cases h2 : i < k
    · rw [if_pos h2, if_pos (by omega)]
    · rw [if_neg h2, if_neg (by omega)]
theorem tabV_set {n : Nat} {f : Nat → Value} {k : Nat} {v : Value} : (tabV n f).setIfInBounds k v = tabV n (upd f k v) := by
  refine tabV_ext (by simp) fun i hi => ?_
  rw [Array.getElem?_setIfInBounds]
  by_cases h : k = i
  · subst h; simp [hi]
  · rw [if_neg h, tabV_get hi, upd_other _ _ _ (fun e => h e.symm)]
theorem tabV_extract {m n o : Nat} {f : Nat → Value} (h : o + n ≤ m) : (tabV m f).extract o (o + n) = tabV n (fun j => f (o + j)) := by
  refine tabV_ext (by simp; omega) fun i hi => ?_
  rw [Array.getElem?_extract]
  rw [if_pos (by simp; omega), tabV_get (by omega)]
def arr8 (n : Nat) (f : Nat → UInt8) : Array Value := tabV n (fun i => V8 (f i))
def arr32 (n : Nat) (f : Nat → UInt32) : Array Value := tabV n (fun i => V32 (f i))
def arr64 (n : Nat) (f : Nat → UInt64) : Array Value := tabV n (fun i => V64 (f i))
@[simp] theorem arr8_size (n : Nat) (f : Nat → UInt8) : (arr8 n f).size = n := by simp [arr8]
@[simp] theorem arr32_size (n : Nat) (f : Nat → UInt32) : (arr32 n f).size = n := by simp [arr32]
@[simp] theorem arr64_size (n : Nat) (f : Nat → UInt64) : (arr64 n f).size = n := by simp [arr64]
theorem arr8_get {n : Nat} {f : Nat → UInt8} {i : Nat} (h : i < n) : (arr8 n f)[i]? = some (V8 (f i)) := tabV_get h
theorem arr32_get {n : Nat} {f : Nat → UInt32} {i : Nat} (h : i < n) : (arr32 n f)[i]? = some (V32 (f i)) := tabV_get h
theorem arr8_set {n : Nat} {f : Nat → UInt8} {k : Nat} {v : UInt8} : (arr8 n f).setIfInBounds k (V8 v) = arr8 n (upd f k v) := by
  unfold arr8; rw [tabV_set]; congr 1; funext i; unfold upd; split <;> rfl
theorem arr32_set {n : Nat} {f : Nat → UInt32} {k : Nat} {v : UInt32} : (arr32 n f).setIfInBounds k (V32 v) = arr32 n (upd f k v) := by
  unfold arr32; rw [tabV_set]; congr 1; funext i; unfold upd; split <;> rfl
theorem arr64_set {n : Nat} {f : Nat → UInt64} {k : Nat} {v : UInt64} : (arr64 n f).setIfInBounds k (V64 v) = arr64 n (upd f k v) := by
  unfold arr64; rw [tabV_set]; congr 1; funext i; unfold upd; split <;> rfl
theorem arr8_congr {n : Nat} {f g : Nat → UInt8} (h : ∀ i, i < n → f i = g i) : arr8 n f = arr8 n g := tabV_congr fun i hi => by rw [h i hi]
theorem arr32_congr {n : Nat} {f g : Nat → UInt32} (h : ∀ i, i < n → f i = g i) : arr32 n f = arr32 n g := tabV_congr fun i hi => by rw [h i hi]
theorem arr8_extract {m n o : Nat} {f : Nat → UInt8} (h : o + n ≤ m) : (arr8 m f).extract o (o + n) = arr8 n (fun j => f (o + j)) := tabV_extract h
def bytes (l : List UInt8) : Array Value := (l.map V8).toArray
@[simp] theorem bytes_size (l : List UInt8) : (bytes l).size = l.length := by simp [bytes]
theorem bytes_get {l : List UInt8} {i : Nat} : (bytes l)[i]? = l[i]?.map V8 := by simp [bytes]
def Blk (w : World) (b : Nat) (t : TypeId) (cs : Array Value) : Prop := ∃ fr : Nat × Nat, w.heap[b]? = some (.cells cs t fr) ∧ (fr.1 = fr.2 ∨ cs.size ≤ fr.1)
theorem Blk.cell {w : World} {b : Nat} {t : TypeId} {cs : Array Value} (h : Blk w b t cs) {o : Nat} {v : Value} (hv : cs[o]? = some v) : w.cell? ⟨b, o, none⟩ = some v := by
  obtain ⟨fr, h, _⟩ := h
  simp [World.cell?, h, hv]
theorem Blk.free {w : World} {b : Nat} {t : TypeId} {cs : Array Value} (h : Blk w b t cs) {o : Nat} (ho : o < cs.size) : w.frozen? ⟨b, o, none⟩ = false := by
  obtain ⟨fr, h, hf⟩ := h
  have := ho
  simp only [World.frozen?, h]
  simp only [Bool.and_eq_false_iff, decide_eq_false_iff_not, Nat.not_le, Nat.not_lt]
  omega
theorem Blk.lt {w : World} {b : Nat} {t : TypeId} {cs : Array Value} (h : Blk w b t cs) : b < w.heap.size := by
  obtain ⟨fr, h, _⟩ := h
  exact (Array.getElem?_eq_some_iff.1 h).1
theorem Blk.of_heap {w w' : World} {b : Nat} {t : TypeId} {cs : Array Value} (h : Blk w b t cs) (e : w'.heap[b]? = w.heap[b]?) : Blk w' b t cs := by
  obtain ⟨fr, h, hf⟩ := h
  exact ⟨fr, by rw [e, h], hf⟩
theorem Blk.set {w : World} {b : Nat} {t : TypeId} {cs : Array Value} (h : Blk w b t cs) (o : Nat) (v : Value) : Blk (w.setCell ⟨b, o, none⟩ v) b t (cs.setIfInBounds o v) := by
  obtain ⟨fr, h, hf⟩ := h
  exact ⟨fr, by simp [World.setCell, Array.getElem?_modify, h], by simpa using hf⟩
theorem Blk.mark {w : World} {b : Nat} {t : TypeId} {cs : Array Value} (h : Blk w b t cs) : Blk (w.freeze ⟨b, cs.size, none⟩ 1) b t cs := by
  obtain ⟨⟨lo, hi⟩, h, hf⟩ := h
  refine ⟨if lo == hi then (cs.size, cs.size + 1) else (min lo cs.size, max hi (cs.size + 1)), by simp [World.freeze, Array.getElem?_modify, h], ?_⟩
  by_cases e : lo = hi
  · rw [if_pos (by simpa using e)]; exact .inr (Nat.le_refl _)
  · rw [if_neg (by simpa using e)]
    rcases hf with hf | hf
    · exact absurd hf e
    · refine .inr ?_
      have : cs.size ≤ lo := hf
      show cs.size ≤ min lo cs.size
      omega
theorem heap_freeze_other (w : World) (a : Addr) (n : Nat) {k : Nat} (h : k ≠ a.block) : (w.freeze a n).heap[k]? = w.heap[k]? := by
  unfold World.freeze
  split
  · rfl
  · simp only [Array.getElem?_modify]
    rw [if_neg (fun e => h e.symm)]
theorem heap_set_other (w : World) (a : Addr) (v : Value) {k : Nat} (h : k ≠ a.block) : (w.setCell a v).heap[k]? = w.heap[k]? := heap_setCell_other w a k v h
theorem heap_set_size (w : World) (a : Addr) (v : Value) : (w.setCell a v).heap.size = w.heap.size := by simp [World.setCell]
theorem Blk.new (w : World) (t : TypeId) (cs : Array Value) : Blk (w.alloc (.cells cs t)) w.heap.size t cs := ⟨(0, 0), Go.heap_alloc_new w _, .inl rfl⟩
structure Chg (S : List Nat) (w w' : World) : Prop where
  os : w'.os = w.os
  tape : w'.tape = w.tape
  output : w'.output = w.output
  size : w.heap.size ≤ w'.heap.size
  block : ∀ k, k < w.heap.size → k ∉ S → w'.heap[k]? = w.heap[k]?
theorem Chg.refl (S : List Nat) (w : World) : Chg S w w := ⟨rfl, rfl, rfl, Nat.le_refl _, fun _ _ _ => rfl⟩
theorem Chg.trans {S : List Nat} {a b c : World} (h : Chg S a b) (k : Chg S b c) : Chg S a c :=
  ⟨k.os.trans h.os, k.tape.trans h.tape, k.output.trans h.output, Nat.le_trans h.size k.size, fun i hi hn => (k.block i (Nat.lt_of_lt_of_le hi h.size) hn).trans (h.block i hi hn)⟩
theorem Chg.trans' {S T : List Nat} {a b c : World} (h : Chg S a b) (k : Chg T b c) (hT : ∀ x ∈ T, x < a.heap.size → x ∈ S) : Chg S a c :=
  ⟨k.os.trans h.os, k.tape.trans h.tape, k.output.trans h.output, Nat.le_trans h.size k.size, fun i hi hn => (k.block i (Nat.lt_of_lt_of_le hi h.size) (fun hm => hn (hT i hm hi))).trans (h.block i hi hn)⟩
theorem Chg.weak {S T : List Nat} {w w' : World} (h : Chg S w w') (hs : ∀ x ∈ S, x ∈ T) : Chg T w w' := ⟨h.os, h.tape, h.output, h.size, fun k hk hn => h.block k hk fun hm => hn (hs k hm)⟩
theorem Chg.drew {S : List Nat} {a w : World} (h : Chg S a w) : Chg S a w.drew := ⟨h.os, h.tape, h.output, h.size, h.block⟩
theorem Chg.alloc {S : List Nat} {a w : World} (h : Chg S a w) (o : Obj) : Chg S a (w.alloc o) :=
  h.trans ⟨rfl, rfl, rfl, by simp, fun k hk _ => Below.heap_alloc _ _ _ (by omega)⟩
theorem Chg.setCell {S : List Nat} {a w : World} (h : Chg S a w) {p : Addr} (hp : a.heap.size ≤ p.block ∨ p.block ∈ S) (u : Value) : Chg S a (w.setCell p u) where
  os := h.os
  tape := h.tape
  output := h.output
  size := by rw [heap_set_size]; exact h.size
  block k hk hn := by
    have hne : k ≠ p.block := by
      rcases hp with hp | hp
      · omega
      · intro e; exact hn (e ▸ hp)
    rw [heap_set_other _ _ _ hne]; exact h.block k hk hn
theorem Chg.below {w w' : World} (h : Chg [] w w') : Below w.heap.size w w' := ⟨h.os, h.tape, h.output, h.size, fun k hk => h.block k hk (by simp)⟩
theorem Chg.cell {S : List Nat} {w w' : World} (h : Chg S w w') {p : Addr} {v : Value} (hv : w.cell? p = some v) (hn : p.block ∉ S) : w'.cell? p = some v := by
  rw [← hv]
  exact World.cell?_of_block (w := w) (h.block p.block (block_lt_of_cell hv) hn)
theorem Chg.blk {S : List Nat} {w w' : World} (h : Chg S w w') {b : Nat} {t : TypeId} {cs : Array Value} (hb : Blk w b t cs) (hn : b ∉ S) : Blk w' b t cs := hb.of_heap (h.block b hb.lt hn)
theorem Chg.nil_blk {w w' : World} (h : Chg [] w w') {b : Nat} {t : TypeId} {cs : Array Value} (hb : Blk w b t cs) : Blk w' b t cs := h.blk hb (by simp)
theorem Chg.nil_cell {w w' : World} (h : Chg [] w w') {p : Addr} {v : Value} (hv : w.cell? p = some v) : w'.cell? p = some v := h.cell hv (by simp)
abbrev Own := Option Nat × TypeId × Array Value
def Own.at (e : Own) : Option Nat := e.1
structure Hp (S : List Nat) (w0 w : World) (L : List Own) : Prop where
  chg : Chg S w0 w
  own : ∀ e ∈ L, ∀ b, e.1 = some b → (w0.heap.size ≤ b ∨ b ∈ S) ∧ Blk w b e.2.1 e.2.2
  apart : ∀ (i j b : Nat), (L[i]?).bind Own.at = some b → (L[j]?).bind Own.at = some b → i = j
theorem Hp.start (S : List Nat) (w : World) : Hp S w w [] := ⟨.refl _ _, by simp, by simp⟩
theorem Hp.blk {S : List Nat} {w0 w : World} {L : List Own} (h : Hp S w0 w L) (i : Nat) {b : Nat} {t : TypeId} {cs : Array Value} (hi : L[i]? = some (some b, t, cs)) : Blk w b t cs := (h.own _ (List.mem_of_getElem? hi) b rfl).2
theorem Hp.mine {S : List Nat} {w0 w : World} {L : List Own} (h : Hp S w0 w L) (i : Nat) {b : Nat} {t : TypeId} {cs : Array Value} (hi : L[i]? = some (some b, t, cs)) : w0.heap.size ≤ b ∨ b ∈ S := (h.own _ (List.mem_of_getElem? hi) b rfl).1
theorem Hp.drew {S : List Nat} {w0 w : World} {L : List Own} (h : Hp S w0 w L) : Hp S w0 w.drew L := ⟨h.chg.drew, fun e he b hb => ⟨(h.own e he b hb).1, (h.own e he b hb).2.of_heap rfl⟩, h.apart⟩
theorem Hp.lt {S : List Nat} {w0 w : World} {L : List Own} (h : Hp S w0 w L) {e : Own} (he : e ∈ L) {b : Nat} (hb : e.1 = some b) : b < w.heap.size := (h.own e he b hb).2.lt
theorem Hp.other {S : List Nat} {w0 w : World} {L : List Own} (h : Hp S w0 w L) {i : Nat} {b : Nat} {t : TypeId} {cs : Array Value} (hi : L[i]? = some (some b, t, cs)) {j : Nat} {e' : Own} (hj : L[j]? = some e') (hij : i ≠ j) {b' : Nat} (hb' : e'.1 = some b') : b' ≠ b := by
  intro he
  exact hij (h.apart i j b (by rw [hi]; rfl) (by rw [hj]; exact he ▸ hb'))
theorem Hp.turn {S : List Nat} {w0 w w' : World} {L : List Own} (h : Hp S w0 w L) (i : Nat) {e : Own} (hi : L[i]? = some e) (e' : Own) (hc : Chg S w0 w')
    (hb : ∀ b, e'.1 = some b → (w0.heap.size ≤ b ∨ b ∈ S) ∧ Blk w' b e'.2.1 e'.2.2) (hd : ∀ b, e'.1 = some b → e.1 = some b ∨ w.heap.size ≤ b)
    (ho : ∀ k, e.1 ≠ some k → k < w.heap.size → w'.heap[k]? = w.heap[k]?) : Hp S w0 w' (L.set i e') where
  chg := hc
  own x hx b hxb := by
    obtain ⟨j, hj⟩ := List.mem_iff_getElem?.1 hx
    rw [List.getElem?_set] at hj
    split at hj
    · split at hj
      · cases hj; exact hb b hxb
      · cases hj
    · rename_i hij
      have hm := List.mem_of_getElem? hj
      refine ⟨(h.own x hm b hxb).1, (h.own x hm b hxb).2.of_heap (ho b ?_ (h.lt hm hxb))⟩
      intro he
      exact hij (h.apart i j b (by rw [hi]; exact he) (by rw [hj]; exact hxb))
  apart j k b hj hk := by
    have key : ∀ m : Nat, ((L.set i e')[m]?).bind Own.at = some b → (m = i ∧ e'.1 = some b) ∨ (m ≠ i ∧ (L[m]?).bind Own.at = some b) := by
      intro m hm
      rw [List.getElem?_set] at hm
      split at hm
      · split at hm
        · rename_i h1 h2; exact .inl ⟨h1.symm, hm⟩
        · simp at hm
      · rename_i h1; exact .inr ⟨fun e => h1 e.symm, hm⟩
    have old : ∀ m : Nat, m ≠ i → (L[m]?).bind Own.at = some b → e'.1 = some b → False := by
      intro m hmi hm he
      obtain ⟨x, hx, hxb⟩ := Option.bind_eq_some_iff.1 hm
      rcases hd b he with h1 | h1
      · exact hmi (h.apart m i b hm (by rw [hi]; exact h1))
      · have := h.lt (List.mem_of_getElem? hx) hxb; omega
    rcases key j hj with ⟨hji, hj1⟩ | ⟨hji, hj1⟩ <;> rcases key k hk with ⟨hki, hk1⟩ | ⟨hki, hk1⟩
    · omega
    · exact (old k hki hk1 hj1).elim
    · exact (old j hji hj1 hk1).elim
    · exact h.apart j k b hj1 hk1
theorem Hp.put {S : List Nat} {w0 w w' : World} {L : List Own} (h : Hp S w0 w L) (i : Nat) {b : Nat} {t : TypeId} {cs cs' : Array Value} (hi : L[i]? = some (some b, t, cs))
    (hc : Chg S w0 w') (hb : Blk w' b t cs') (ho : ∀ k, k ≠ b → k < w.heap.size → w'.heap[k]? = w.heap[k]?) : Hp S w0 w' (L.set i (some b, t, cs')) :=
  h.turn i hi _ hc (fun b' hb' => by cases hb'; exact ⟨h.mine i hi, hb⟩) (fun b' hb' => .inl hb') fun k hk hlt => ho k (fun e => hk (e ▸ rfl)) hlt
theorem Hp.store {S : List Nat} {w0 w : World} {L : List Own} (h : Hp S w0 w L) (i : Nat) {b : Nat} {t : TypeId} {cs : Array Value} (hi : L[i]? = some (some b, t, cs)) (o : Nat) (v : Value) :
    Hp S w0 (w.setCell ⟨b, o, none⟩ v) (L.set i (some b, t, cs.setIfInBounds o v)) :=
  h.put i hi (h.chg.setCell (h.mine i hi) v) ((h.blk i hi).set o v) fun k hk _ => heap_set_other _ _ _ hk
theorem Hp.call {S : List Nat} {w0 w w' : World} {L : List Own} (h : Hp S w0 w L) (hc : Chg [] w w') : Hp S w0 w' L :=
  ⟨h.chg.trans' hc (by simp), fun e he b hb => ⟨(h.own e he b hb).1, hc.nil_blk (h.own e he b hb).2⟩, h.apart⟩
theorem Hp.callw {S : List Nat} {w0 w w' : World} {L : List Own} (h : Hp S w0 w L) (i : Nat) {b : Nat} {t : TypeId} {cs cs' : Array Value} (hi : L[i]? = some (some b, t, cs)) (hc : Chg [b] w w') (hb : Blk w' b t cs') : Hp S w0 w' (L.set i (some b, t, cs')) := by
  refine h.put i hi (h.chg.trans' hc ?_) hb fun k hk hlt => hc.block k hlt (by simpa using hk)
  intro x hx hlt
  simp only [List.mem_singleton] at hx
  subst hx
  rcases h.mine i hi with h1 | h1
  · omega
  · exact h1
theorem Hp.add {S : List Nat} {w0 w : World} {L : List Own} (h : Hp S w0 w L) (e : Own) (hb : ∀ b, e.1 = some b → (w0.heap.size ≤ b ∨ b ∈ S) ∧ Blk w b e.2.1 e.2.2) (hn : ∀ x ∈ L, ∀ b, e.1 = some b → x.1 ≠ some b) : Hp S w0 w (L ++ [e]) where
  chg := h.chg
  own x hx := by
    rcases List.mem_append.1 hx with hx | hx
    · exact h.own x hx
    · simp only [List.mem_singleton] at hx; subst hx; exact hb
  apart i j b hi hj := by
    have key : ∀ m : Nat, ((L ++ [e])[m]?).bind Own.at = some b → (m < L.length ∧ (L[m]?).bind Own.at = some b) ∨ (m = L.length ∧ e.1 = some b) := by
      intro m hm
      rw [List.getElem?_append] at hm
      split at hm
      · rename_i h1; exact .inl ⟨h1, hm⟩
      · rename_i h1
        obtain ⟨x, hx, hxb⟩ := Option.bind_eq_some_iff.1 hm
        have h0 : m - L.length = 0 := by
          cases hz : m - L.length with
          | zero => rfl
          | succ n => rw [hz] at hx; simp at hx
        rw [h0] at hx; simp at hx; subst hx
        exact .inr ⟨by omega, hxb⟩
    have old : ∀ m : Nat, (L[m]?).bind Own.at = some b → e.1 = some b → False := by
      intro m hm he
      obtain ⟨x, hx, hxb⟩ := Option.bind_eq_some_iff.1 hm
      exact hn x (List.mem_of_getElem? hx) b he hxb
    rcases key i hi with ⟨_, hi⟩ | ⟨hi', hi⟩ <;> rcases key j hj with ⟨_, hj⟩ | ⟨hj', hj⟩
    · exact h.apart i j b hi hj
    · exact (old i hi hj).elim
    · exact (old j hj hi).elim
    · omega
theorem Hp.nil {S : List Nat} {w0 w : World} {L : List Own} (h : Hp S w0 w L) (t : TypeId) : Hp S w0 w (L ++ [(none, t, #[])]) := h.add _ (fun b hb => by cases hb) (fun x _ b hb => by cases hb)
theorem Hp.callnew {S : List Nat} {w0 w w' : World} {L : List Own} (h : Hp S w0 w L) (hc : Chg [] w w') {b : Nat} {t : TypeId} {cs : Array Value} (hb : Blk w' b t cs) (hn : w.heap.size ≤ b) : Hp S w0 w' (L ++ [(some b, t, cs)]) :=
  (h.call hc).add _ (fun b' hb' => by cases hb'; exact ⟨.inl (Nat.le_trans h.chg.size hn), hb⟩) (fun x hx b' hb' hxb => by cases hb'; have := h.lt hx hxb; omega)
theorem Hp.alloc {S : List Nat} {w0 w : World} {L : List Own} (h : Hp S w0 w L) (t : TypeId) (cs : Array Value) : Hp S w0 (w.alloc (.cells cs t)) (L ++ [(some w.heap.size, t, cs)]) :=
  h.callnew ((Chg.refl [] w).alloc _) (Blk.new w t cs) (Nat.le_refl _)
theorem Hp.mark {S : List Nat} {w0 w : World} {L : List Own} (h : Hp S w0 w L) (i : Nat) {b : Nat} {t : TypeId} {cs : Array Value} (hi : L[i]? = some (some b, t, cs)) : Hp S w0 (w.freeze ⟨b, cs.size, none⟩ 1) (L.set i (some b, t, cs)) := by
  refine h.put i hi ⟨?_, ?_, ?_, ?_, ?_⟩ (h.blk i hi).mark fun k hk _ => heap_freeze_other _ _ _ hk
  · exact h.chg.os
  · exact h.chg.tape
  · exact h.chg.output
  · have : (w.freeze ⟨b, cs.size, none⟩ 1).heap.size = w.heap.size := by simp [World.freeze]
    rw [this]; exact h.chg.size
  · intro k hk hn
    rw [heap_freeze_other]
    · exact h.chg.block k hk hn
    · intro e
      have e' : k = b := e
      subst e'
      rcases h.mine i hi with h1 | h1
      · omega
      · exact hn h1
theorem Hp.callown {S : List Nat} {w0 w w' : World} {L : List Own} (h : Hp S w0 w L) (hc : Chg [] w w') {o : Option Nat} {t : TypeId} {cs : Array Value} (hb : ∀ b, o = some b → w.heap.size ≤ b ∧ Blk w' b t cs) : Hp S w0 w' (L ++ [(o, t, cs)]) :=
  (h.call hc).add _ (fun b hb' => ⟨.inl (Nat.le_trans h.chg.size (hb b hb').1), (hb b hb').2⟩) (fun x hx b hb' hxb => by have := h.lt hx hxb; have := (hb b hb').1; omega)
theorem Hp.owned {w0 w : World} {L : List Own} (h : Hp [] w0 w L) (i : Nat) {o : Option Nat} {t : TypeId} {cs : Array Value} (hi : L[i]? = some (o, t, cs)) : ∀ b, o = some b → w0.heap.size ≤ b ∧ Blk w b t cs := fun b hb =>
  have := h.own _ (List.mem_of_getElem? hi) b hb
  ⟨this.1.resolve_right (by simp), this.2⟩
end Go.Proofs.YtmoaddicejohgaaDoor
set_option linter.unusedSimpArgs false
set_option linter.unusedVariables false
namespace Go.Proofs.YtmoaddicejohgaaDoor
open Go
section
variable {P : Program} {ops : Array Oper} {Q : Exit → Act → World → Prop} {md : Region.Mode}
def anyW : World → World → Prop := fun _ _ => True
def Qt (P : Program) (ops : Array Oper) (o : Oper) (v : Value) (R : World → World → Prop) (w : World) (a : Act) : Prop :=
  (Region.wanted o (yielded ops a.tmps) = true ∧ ∀ w', R w w' → o.quietAt P a (Chg [] w') w' v) ∨
  (Region.wanted o (yielded ops a.tmps) = false ∧ v = undef)
structure Far (R : World → World → Prop) : Prop where
  of : ∀ w w', Chg [] w w' → R w w'
  trans : ∀ a b c, R a b → R b c → R a c
theorem Far.any : Far anyW := ⟨fun _ _ _ => trivial, fun _ _ _ _ _ => trivial⟩
theorem Far.grown : Far (Chg []) := ⟨fun _ _ h => h, fun _ _ _ h k => h.trans k⟩
theorem Far.chg (S : List Nat) : Far (Chg S) := ⟨fun _ _ h => h.weak (by simp), fun _ _ _ h k => h.trans k⟩
theorem Qt.of_same {o : Oper} {v : Value} {R : World → World → Prop} {w : World} {a a' : Act} (hy : Qt P ops o v R w a) (he : execOp a'.eval o = execOp a.eval o)
    (hw : Region.wanted o (yielded ops a'.tmps) = Region.wanted o (yielded ops a.tmps)) : Qt P ops o v R w a' := by
  unfold Qt Oper.quietAt at *
  rw [he, hw]
  exact hy
theorem Qt.grow {o : Oper} {v : Value} {R : World → World → Prop} (hR : Far R) {w w' : World} {a : Act} (hy : Qt P ops o v R w a) (h : R w w') : Qt P ops o v R w' a := by
  rcases hy with ⟨h1, h2⟩ | h1
  · exact .inl ⟨h1, fun w2 h3 => h2 w2 (hR.trans _ _ _ h h3)⟩
  · exact .inr h1
theorem Qt.wpOp {i : Nat} {o : Oper} {v : Value} {R : World → World → Prop} (hR : Far R) {a : Act} {w : World} (hi : ops[i]? = some o) (hy : Qt P ops o v R w a) {K : Act → World → Prop} (h : ∀ w', Chg [] w w' → K (a.put o.dst v) w') : wpOp P ops Q i K a w := by
  unfold Go.wpOp
  simp only [hi]
  rcases hy with ⟨hw, hv⟩ | ⟨hw, rfl⟩
  · simp only [hw, if_true]
    refine .inl ?_
    have hv := hv w (hR.of _ _ (.refl _ _))
    unfold Oper.quietAt at hv
    unfold Oper.wp
    generalize (execOp a.eval o).run P w = r at hv
    cases r with
    | ok n w' =>
      cases n <;> simp only [Oper.quietUpon] at hv <;> simp only [Oper.upon]
      case value u => obtain ⟨e1, e2⟩ := hv; rw [e1, e2]; exact h _ (.refl _ _)
      case skip => obtain ⟨e1, e2⟩ := hv; rw [e1, ← e2]; exact h _ (.refl _ _)
      case enter f args =>
        obtain ⟨e1, hc⟩ := hv
        rw [e1]
        exact hc.mono fun e w'' ⟨he, hw''⟩ => by subst he; exact h _ hw''
    | halt x w' => simp only [Oper.quietUpon] at hv
  · simp only [hw, Bool.false_eq_true, if_false]; exact h _ (.refl _ _)
theorem wpOp_putY {j : Nat} {oi oj : Oper} {v : Value} (Y : Act → Prop) (hj : ops[j]? = some oj) (h1 : ∀ d, oi.dst = some d → d ∉ oj.looksAt ops) (h2 : ∀ d, oi.dst = some d → oj.dst ≠ some d)
    (hsj : ∀ cs b, oj.op ≠ .select cs b) (hQ : ∀ c a w, Q (.panic c) (a.put oi.dst v) w → Q (.panic c) a w) {K : Act → World → Prop} {a : Act} {w : World}
    (keep : ∀ u, Y (a.put oj.dst u)) (keepD : ∀ d, Y (({ a with defers := d :: a.defers } : Act).put oj.dst undef)) (h : wpOp P ops Q j K (a.put oi.dst v) w) :
    wpOp P ops Q j (fun a' w' => Y a' ∧ K (a'.put oi.dst v) w') a w := by
  unfold wpOp at *
  simp only [hj] at *
  rw [wanted_put oj a oi.dst v h1] at h
  by_cases hw : Region.wanted oj (yielded ops a.tmps) = true
  · rw [if_pos hw] at h ⊢
    rcases h with h | ⟨ha, hl⟩
    · refine .inl ?_
      unfold Oper.wp at *
      rw [execOp_put oj hsj a oi.dst v h1] at h
      cases hr : (execOp a.eval oj).run P w with
      | ok n w' =>
        rw [hr] at h
        cases n <;> simp only [Oper.upon] at h ⊢
        case value u => exact ⟨keep u, Act.put_comm a v u h2 ▸ h⟩
        case skip => exact ⟨keep _, Act.put_comm a v undef h2 ▸ h⟩
        case defer d => exact ⟨keepD d, by rw [← Act.put_comm _ v undef h2, ← Act.put_defers]; exact h⟩
        case enter f args =>
          refine Calls.mono h fun e w'' he => ?_
          cases e with
          | returned u => exact ⟨keep u, Act.put_comm a v u h2 ▸ he⟩
          | panicked c => exact hQ _ _ _ he
          | outgrown => exact he
        case row row args => exact Rows.mono h fun u w'' he => ⟨keep u, Act.put_comm a v u h2 ▸ he⟩
      | halt x w' =>
        rw [hr] at h
        cases x <;> simp only [Oper.upon] at h ⊢
        case panic u => exact hQ _ _ _ h
    · exact .inr ⟨by unfold Oper.asks at *; rw [execOp_put oj hsj a oi.dst v h1] at ha; exact ha, hl⟩
  · rw [if_neg hw] at h ⊢
    exact ⟨keep _, Act.put_comm a v undef h2 ▸ h⟩
def eff (E M : List Nat) (R0 : World → World → Prop) (i : Nat) (w w' : World) : Prop := (E.contains i = false → R0 w w') ∧ (E.contains i = false → M.contains i = false → Chg [] w w')
theorem eff.grown {E M : List Nat} {R0 : World → World → Prop} (hR : Far R0) {i : Nat} {w w' : World} (h : Chg [] w w') : eff E M R0 i w w' := ⟨fun _ => hR.of _ _ h, fun _ _ => h⟩
def wpAnyR (P : Program) (md : Region.Mode) (ops : Array Oper) (Q : Exit → Act → World → Prop) (E M : List Nat) (R0 : World → World → Prop) : Nat → Array Bool → Act → World → Prop
  | 0, listed, a, w => ∀ w1, Chg [] w w1 → Region.ready md ops listed = [] ∧ Q .normal a w1
  | fuel + 1, listed, a, w => ∀ w1, Chg [] w w1 →
    (Region.ready md ops listed = [] → Q .normal a w1) ∧
    ∀ i ∈ Region.ready md ops listed, wpOp P ops Q i (fun a' w' => eff E M R0 i w1 w' ∧ wpAnyR P md ops Q E M R0 fuel (listed.setIfInBounds i true) a' w') a w1
theorem wpAny_of_R {E M : List Nat} {R0 : World → World → Prop} : ∀ (fuel : Nat) (listed : Array Bool) (a : Act) (w : World), wpAnyR P md ops Q E M R0 fuel listed a w → wpAny P md ops Q fuel listed a w
  | 0, _, _, w, h => h w (.refl _ _)
  | fuel + 1, _, _, w, h => ⟨(h w (.refl _ _)).1, fun i hi => wpOp_mono (fun a' w' h' => wpAny_of_R fuel _ a' w' h'.2) ((h w (.refl _ _)).2 i hi)⟩
theorem wpAnyR.grow {E M : List Nat} {R0 : World → World → Prop} {fuel : Nat} {listed : Array Bool} {a : Act} {w w' : World} (h : wpAnyR P md ops Q E M R0 fuel listed a w) (hc : Chg [] w w') : wpAnyR P md ops Q E M R0 fuel listed a w' := by
  cases fuel with
  | zero => exact fun w1 h1 => h w1 (hc.trans h1)
  | succ fuel => exact fun w1 h1 => h w1 (hc.trans h1)
theorem wpAnyR_first {E M : List Nat} {R0 R : World → World → Prop} (hR0 : Far R0) (hR : Far R) {i : Nat} {oi : Oper} {v : Value} (hi : ops[i]? = some oi) (hsel : ∀ (j : Nat) (o : Oper) cs b, ops[j]? = some o → o.op ≠ .select cs b)
    (hQ : ∀ c a w, Q (.panic c) (a.put oi.dst v) w → Q (.panic c) a w) (S : Nat → Bool)
    (hS : ∀ j oj, ops[j]? = some oj → j ≠ i → (∀ e ∈ oj.after, Region.binds md e = true → S e.on = true) → S j = true) :
    ∀ (fuel : Nat) (listed : Array Bool) (a : Act) (w : World),
      (∀ k, listed.getD k false = true → S k = true) →
      (∀ j oj, ops[j]? = some oj → j ≠ i → S j = true → listed.getD j true = false → ((∀ w w', eff E M R0 j w w' → R w w') ∧ oi.apart ops oj = true)) →
      i ∈ Region.ready md ops listed → Qt P ops oi v R w a →
      wpAnyR P md ops Q E M R0 fuel (listed.setIfInBounds i true) (a.put oi.dst v) w → wpAnyR P md ops Q E M R0 (fuel + 1) listed a w := by
  intro fuel
  induction fuel with
  | zero =>
    intro listed a w hL hfree hr hy H w1 hw1
    refine ⟨fun h => (by rw [h] at hr; cases hr), fun j hj => ?_⟩
    by_cases hji : j = i
    · subst hji
      exact (hy.grow hR (hR.of _ _ hw1)).wpOp hR hi fun w' hw' => ⟨.grown hR0 hw', H.grow (hw1.trans hw')⟩
    · have := ready_mono hj hji
      rw [(H w (.refl _ _)).1] at this
      cases this
  | succ fuel ih =>
    intro listed a w hL hfree hr hy H w1 hw1
    refine ⟨fun h => (by rw [h] at hr; cases hr), fun j hj => ?_⟩
    by_cases hji : j = i
    · subst hji
      exact (hy.grow hR (hR.of _ _ hw1)).wpOp hR hi fun w' hw' => ⟨.grown hR0 hw', H.grow (hw1.trans hw')⟩
    · have h1 := (H w1 hw1).2 j (ready_mono hj hji)
      obtain ⟨hjun, oj, hoj, hall⟩ := mem_ready.1 hj
      have hSj : S j = true := hS j oj hoj hji fun e he hb => hL _ (hall e he hb)
      obtain ⟨hjE, hap⟩ := hfree j oj hoj hji hSj hjun
      obtain ⟨a1, a2, a3⟩ := Oper.apart_spec hap
      have keep : ∀ (a : Act) u, Qt P ops oi v R w1 a → Qt P ops oi v R w1 (a.put oj.dst u) := fun a u hy =>
        hy.of_same (execOp_put oi (fun cs b => hsel i oi cs b hi) a oj.dst u a3) (wanted_put oi a oj.dst u a3)
      have hy1 := hy.grow hR (hR.of _ _ hw1)
      have h2 := wpOp_putY (fun a => Qt P ops oi v R w1 a) hoj a1 a2 (fun cs b => hsel j oj cs b hoj) hQ (fun u => keep a u hy1) (fun d => keep _ undef (hy1.of_same rfl rfl)) h1
      have hL' : ∀ k, (listed.setIfInBounds j true).getD k false = true → S k = true := by
        intro k hk
        by_cases hjk : j = k
        · subst hjk; exact hSj
        · rw [getD_set_ne false hjk] at hk; exact hL k hk
      have hfree' : ∀ k ok, ops[k]? = some ok → k ≠ i → S k = true → (listed.setIfInBounds j true).getD k true = false → ((∀ w w', eff E M R0 k w w' → R w w') ∧ oi.apart ops ok = true) := by
        intro k ok hk hki hSk hun
        refine hfree k ok hk hki hSk ?_
        by_cases hjk : j = k
        · subst hjk; exact hjun
        · rw [getD_set_ne true hjk] at hun; exact hun
      refine wpOp_mono (fun a' w' h3 => ⟨h3.2.1, ?_⟩) h2
      obtain ⟨h3a, h3b, h3c⟩ := h3
      refine ih (listed.setIfInBounds j true) a' w' hL' hfree' (ready_mono hr (Ne.symm hji)) (h3a.grow hR (hjE _ _ h3b)) ?_
      rw [Array.setIfInBounds_comm _ _ hji]
      exact h3c
structure Row where
  after : List Nat
  looks : List Nat
  dst : Option Nat
  deriving DecidableEq
def rowOf (md : Region.Mode) (ops : Array Oper) (o : Oper) : Row :=
  { after := (o.after.toList.filter (Region.binds md ·)).map (·.on), looks := o.looksAt ops, dst := o.dst }
def tabOf (md : Region.Mode) (ops : Array Oper) : List Row := ops.toList.map (rowOf md ops)
def Row.apart (x y : Row) : Bool :=
  (match x.dst with
   | some d => !(y.looks).contains d && y.dst != some d
   | none => true) &&
  (match y.dst with
   | some d => !(x.looks).contains d
   | none => true)
def subset (xs ys : List Nat) : Bool := xs.all (ys.contains ·)
def growth (i : Nat) (b : Bool) (E : List Nat) : List Row → Nat → List Nat → List Nat
  | [], _, S => S
  | r :: rs, j, S => growth i b E rs (j + 1) (if j != i && !(b && E.contains j) && !S.contains j && subset r.after S then j :: S else S)
def closed (i : Nat) (S : List Nat) : List Row → Nat → Bool
  | [], _ => true
  | r :: rs, j => (j == i || S.contains j || !subset r.after S) && closed i S rs (j + 1)
def freeIn (i : Nat) (ri : Row) (pure : Bool) (E S listed : List Nat) : List Row → Nat → Bool
  | [], _ => true
  | r :: rs, j => (j == i || !S.contains j || listed.contains j || ((pure || !E.contains j) && ri.apart r)) && freeIn i ri pure E S listed rs (j + 1)
def readyAt (T : List Row) (listed : List Nat) (i : Nat) : Bool :=
  match T[i]? with
  | some r => !listed.contains i && subset r.after listed
  | none => false
def okTake (T : List Row) (pure : Bool) (E listed : List Nat) (i : Nat) : Bool :=
  match T[i]? with
  | some ri =>
    let S := growth i (!pure) E T 0 listed
    !listed.contains i && subset ri.after listed && !S.contains i && closed i S T 0 && freeIn i ri pure E S listed T 0
  | none => false
def loneAt (listed : List Nat) (k : Nat) : List Row → Nat → Bool
  | [], _ => true
  | r :: rs, j => (j == k || listed.contains j || !subset r.after listed) && loneAt listed k rs (j + 1)
def noneReady (listed : List Nat) : List Row → Nat → Bool
  | [], _ => true
  | r :: rs, j => (listed.contains j || !subset r.after listed) && noneReady listed rs (j + 1)
inductive PStep where
  | p (i : Nat)
  | q (i : Nat)
  | r (i : Nat) (R : World → World → Prop)
  | x (i : Nat)
  | s (i : Nat) (R : World → World → Prop)
  | e (i : Nat)
def effects : List PStep → List Nat
  | [] => []
  | .e i :: r => i :: effects r
  | _ :: r => effects r
def marked : List PStep → List Nat
  | [] => []
  | .s i _ :: r => i :: marked r
  | _ :: r => marked r
def AllR (R0 : World → World → Prop) : List PStep → Prop
  | [] => True
  | .r _ R :: r => R = R0 ∧ AllR R0 r
  | .s _ R :: r => R = R0 ∧ AllR R0 r
  | _ :: r => AllR R0 r
def planOKR (T : List Row) (E M : List Nat) : List PStep → List Nat → Bool
  | [], listed => noneReady listed T 0
  | .p i :: r, listed => okTake T true E listed i && planOKR T E M r (i :: listed)
  | .q i :: r, listed => okTake T false (E ++ M) listed i && planOKR T E M r (i :: listed)
  | .r i _ :: r, listed => okTake T false E listed i && planOKR T E M r (i :: listed)
  | .x k :: r, listed => readyAt T listed k && loneAt listed k T 0 && planOKR T E M r (k :: listed)
  | .s k _ :: r, listed => readyAt T listed k && loneAt listed k T 0 && planOKR T E M r (k :: listed)
  | .e k :: r, listed => readyAt T listed k && loneAt listed k T 0 && planOKR T E M r (k :: listed)
def planOK (T : List Row) (E : List Nat) : List PStep → List Nat → Bool
  | [], listed => noneReady listed T 0
  | .p i :: r, listed => okTake T true E listed i && planOK T E r (i :: listed)
  | .q i :: r, listed => okTake T false E listed i && planOK T E r (i :: listed)
  | .x k :: r, listed => readyAt T listed k && loneAt listed k T 0 && planOK T E r (k :: listed)
  | .e k :: r, listed => readyAt T listed k && loneAt listed k T 0 && planOK T E r (k :: listed)
  | .r _ _ :: _, _ => false
  | .s _ _ :: _, _ => false
theorem planOK_R {T : List Row} {E : List Nat} : ∀ (pl : List PStep) (l : List Nat), planOK T E pl l = true → planOKR T E [] pl l = true ∧ marked pl = [] ∧ AllR (Chg []) pl
  | [], l, h => ⟨h, rfl, trivial⟩
  | .p i :: r, l, h => by
    simp only [planOK, planOKR, Bool.and_eq_true] at h ⊢
    have := planOK_R r _ h.2
    exact ⟨⟨h.1, this.1⟩, this.2.1, this.2.2⟩
  | .q i :: r, l, h => by
    simp only [planOK, planOKR, Bool.and_eq_true, List.append_nil] at h ⊢
    have := planOK_R r _ h.2
    exact ⟨⟨h.1, this.1⟩, this.2.1, this.2.2⟩
  | .x k :: r, l, h => by
    simp only [planOK, planOKR, Bool.and_eq_true] at h ⊢
    have := planOK_R r _ h.2
    exact ⟨⟨h.1, this.1⟩, this.2.1, this.2.2⟩
  | .e k :: r, l, h => by
    simp only [planOK, planOKR, Bool.and_eq_true] at h ⊢
    have := planOK_R r _ h.2
    exact ⟨⟨h.1, this.1⟩, this.2.1, this.2.2⟩
  | .r _ _ :: _, _, h => by simp [planOK] at h
  | .s _ _ :: _, _, h => by simp [planOK] at h
structure Rel (ops : Array Oper) (L : Array Bool) (l : List Nat) : Prop where
  at_ : ∀ k, k < ops.size → L[k]? = some (l.contains k)
  size : L.size = ops.size
  bound : ∀ k ∈ l, k < ops.size
theorem Rel.getDf {L : Array Bool} {l : List Nat} (h : Rel ops L l) (k : Nat) : L.getD k false = l.contains k := by
  by_cases hk : k < ops.size
  · have h1 := h.at_ k hk
    simp [Array.getD_eq_getD_getElem?, h1]
  · have h0 : L[k]? = none := by simp; have := h.size; omega
    have h2 : l.contains k = false := by
      rw [← Bool.not_eq_true, List.contains_iff_mem]
      intro hm; exact hk (h.bound k hm)
    rw [Array.getD_eq_getD_getElem?, h0, h2]; rfl
theorem Rel.getDt {L : Array Bool} {l : List Nat} (h : Rel ops L l) {k : Nat} (hk : k < ops.size) : L.getD k true = l.contains k := by
  have h1 := h.at_ k hk
  simp [Array.getD_eq_getD_getElem?, h1]
theorem Rel.cons {L : Array Bool} {l : List Nat} (h : Rel ops L l) {i : Nat} (hi : i < ops.size) : Rel ops (L.setIfInBounds i true) (i :: l) where
  at_ k hk := by
    rw [Array.getElem?_setIfInBounds]
    by_cases e : i = k
    · subst e; simp [h.size, hi]
    · rw [if_neg e, h.at_ k hk]
      have e' : k ≠ i := fun h => e h.symm
      simp [e']
  size := by simp [h.size]
  bound k hk := by
    rcases List.mem_cons.1 hk with rfl | hk
    · exact hi
    · exact h.bound k hk
theorem Rel.start : Rel ops (Array.replicate ops.size false) [] where
  at_ k hk := by simp [hk]
  size := by simp
  bound k hk := by cases hk
theorem lt_of_get {i : Nat} {o : Oper} (h : ops[i]? = some o) : i < ops.size := (Array.getElem?_eq_some_iff.1 h).1
theorem tab_get {i : Nat} {o : Oper} (h : ops[i]? = some o) : (tabOf md ops)[i]? = some (rowOf md ops o) := by
  unfold tabOf
  rw [List.getElem?_map, Array.getElem?_toList, h]; rfl
theorem tab_get' {i : Nat} {r : Row} (h : (tabOf md ops)[i]? = some r) : ∃ o, ops[i]? = some o ∧ r = rowOf md ops o := by
  unfold tabOf at h
  rw [List.getElem?_map, Array.getElem?_toList] at h
  cases ho : ops[i]? with
  | none => simp [ho] at h
  | some o => simp [ho] at h; exact ⟨o, rfl, h.symm⟩
theorem subset_row {o : Oper} {l : List Nat} : subset (rowOf md ops o).after l = true ↔ ∀ e ∈ o.after, Region.binds md e = true → l.contains e.on = true := by
  unfold subset rowOf
  simp only [List.all_eq_true, List.mem_map, List.mem_filter, forall_exists_index, and_imp]
  constructor
  · intro h e he hb
    exact h e.on e (by simpa using he) hb rfl
  · rintro h x e he hb rfl
    exact h e (by simpa using he) hb
theorem ready_iff {L : Array Bool} {l : List Nat} (h : Rel ops L l) {j : Nat} : j ∈ Region.ready md ops L ↔ l.contains j = false ∧ ∃ o, ops[j]? = some o ∧ subset (rowOf md ops o).after l = true := by
  rw [mem_ready]
  constructor
  · rintro ⟨h0, o, ho, hall⟩
    rw [h.getDt (lt_of_get ho)] at h0
    exact ⟨h0, o, ho, subset_row.2 fun e he hb => by rw [← h.getDf]; exact hall e he hb⟩
  · rintro ⟨h0, o, ho, hall⟩
    refine ⟨by rw [h.getDt (lt_of_get ho)]; exact h0, o, ho, fun e he hb => ?_⟩
    rw [h.getDf]; exact subset_row.1 hall e he hb
theorem closed_spec {i : Nat} {S : List Nat} : ∀ (T : List Row) (n : Nat), closed i S T n = true → ∀ j r, T[j]? = some r → n + j ≠ i → subset r.after S = true → S.contains (n + j) = true
  | [], _, _, j, r, h, _, _ => by simp at h
  | x :: T, n, hc, j, r, h, hji, hs => by
    simp only [closed, Bool.and_eq_true, Bool.or_eq_true, beq_iff_eq, Bool.not_eq_true'] at hc
    cases j with
    | zero =>
      simp at h; subst h
      rcases hc.1 with (h1 | h1) | h1
      · exact absurd h1 (by simpa using hji)
      · simpa using h1
      · rw [hs] at h1; cases h1
    | succ j =>
      have := closed_spec T (n + 1) hc.2 j r (by simpa using h) (by omega) hs
      rw [show n + (j + 1) = n + 1 + j by omega]; exact this
theorem freeIn_spec {i : Nat} {ri : Row} {pure : Bool} {E S l : List Nat} : ∀ (T : List Row) (n : Nat), freeIn i ri pure E S l T n = true → ∀ j r, T[j]? = some r → n + j ≠ i → S.contains (n + j) = true → l.contains (n + j) = false →
    ((pure = true ∨ E.contains (n + j) = false) ∧ ri.apart r = true)
  | [], _, _, j, r, h, _, _, _ => by simp at h
  | x :: T, n, hc, j, r, h, hji, hs, hl => by
    simp only [freeIn, Bool.and_eq_true, Bool.or_eq_true, beq_iff_eq, Bool.not_eq_true'] at hc
    cases j with
    | zero =>
      simp at h; subst h
      simp only [Nat.add_zero] at hs hl hji ⊢
      rcases hc.1 with ((h1 | h1) | h1) | h1
      · exact absurd h1 hji
      · rw [hs] at h1; cases h1
      · rw [hl] at h1; cases h1
      · exact h1
    | succ j =>
      have := freeIn_spec T (n + 1) hc.2 j r (by simpa using h) (by omega) (by rw [show n + 1 + j = n + (j + 1) by omega]; exact hs) (by rw [show n + 1 + j = n + (j + 1) by omega]; exact hl)
      rw [show n + (j + 1) = n + 1 + j by omega]; exact this
theorem loneAt_spec {l : List Nat} {k : Nat} : ∀ (T : List Row) (n : Nat), loneAt l k T n = true → ∀ j r, T[j]? = some r → l.contains (n + j) = false → subset r.after l = true → n + j = k
  | [], _, _, j, r, h, _, _ => by simp at h
  | x :: T, n, hc, j, r, h, hl, hs => by
    simp only [loneAt, Bool.and_eq_true, Bool.or_eq_true, beq_iff_eq, Bool.not_eq_true'] at hc
    cases j with
    | zero =>
      simp at h; subst h
      rcases hc.1 with (h1 | h1) | h1
      · simpa using h1
      · simp only [Nat.add_zero] at hl; rw [hl] at h1; cases h1
      · rw [hs] at h1; cases h1
    | succ j =>
      have := loneAt_spec T (n + 1) hc.2 j r (by simpa using h) (by rw [show n + 1 + j = n + (j + 1) by omega]; exact hl) hs
      omega
theorem noneReady_spec {l : List Nat} : ∀ (T : List Row) (n : Nat), noneReady l T n = true → ∀ j r, T[j]? = some r → l.contains (n + j) = false → subset r.after l = true → False
  | [], _, _, j, r, h, _, _ => by simp at h
  | x :: T, n, hc, j, r, h, hl, hs => by
    simp only [noneReady, Bool.and_eq_true, Bool.or_eq_true, Bool.not_eq_true'] at hc
    cases j with
    | zero =>
      simp at h; subst h
      rcases hc.1 with h1 | h1
      · simp only [Nat.add_zero] at hl; rw [hl] at h1; cases h1
      · rw [hs] at h1; cases h1
    | succ j => exact noneReady_spec T (n + 1) hc.2 j r (by simpa using h) (by rw [show n + 1 + j = n + (j + 1) by omega]; exact hl) hs
theorem contains_cons_of {x : Nat} {j : Nat} {S : List Nat} (h : S.contains j = true) : (x :: S).contains j = true := by
  simp only [List.contains_cons, h, Bool.or_true]
theorem growth_mem {i : Nat} {b : Bool} {E : List Nat} : ∀ (T : List Row) (n : Nat) (S : List Nat) (j : Nat), S.contains j = true → (growth i b E T n S).contains j = true
  | [], _, _, _, h => h
  | r :: T, n, S, j, h => by
    unfold growth
    split
    · exact growth_mem T (n + 1) _ j (contains_cons_of h)
    · exact growth_mem T (n + 1) _ j h
def wpPlan (P : Program) (ops : Array Oper) (Q : Exit → Act → World → Prop) : List PStep → Act → World → Prop
  | [], a, w => ∀ w1, Chg [] w w1 → Q .normal a w1
  | .p i :: r, a, w => ∃ o, ops[i]? = some o ∧ ∃ v, Qt P ops o v anyW w a ∧ wpPlan P ops Q r (a.put o.dst v) w
  | .q i :: r, a, w => ∃ o, ops[i]? = some o ∧ ∃ v, Qt P ops o v (Chg []) w a ∧ wpPlan P ops Q r (a.put o.dst v) w
  | .r i R :: r, a, w => ∃ o, ops[i]? = some o ∧ ∃ v, Qt P ops o v R w a ∧ wpPlan P ops Q r (a.put o.dst v) w
  | .x k :: r, a, w => ∀ w1, Chg [] w w1 → wpOp P ops Q k (fun a' w' => Chg [] w1 w' ∧ wpPlan P ops Q r a' w') a w1
  | .s k R :: r, a, w => ∀ w1, Chg [] w w1 → wpOp P ops Q k (fun a' w' => R w1 w' ∧ wpPlan P ops Q r a' w') a w1
  | .e k :: r, a, w => ∀ w1, Chg [] w w1 → wpOp P ops Q k (fun a' w' => wpPlan P ops Q r a' w') a w1
theorem wpAnyR_plan {E M : List Nat} {R0 : World → World → Prop} (hR0 : Far R0) (hsel : Region.noSelect ops = true) (hQ : ∀ c a d v w, Q (.panic c) (a.put d v) w → Q (.panic c) a w) :
    ∀ (pl : List PStep) (fuel : Nat) (L : Array Bool) (l : List Nat) (a : Act) (w : World), pl.length ≤ fuel → Rel ops L l → (∀ i ∈ effects pl, E.contains i = true) → (∀ i ∈ marked pl, M.contains i = true) → AllR R0 pl → planOKR (tabOf md ops) E M pl l = true → wpPlan P ops Q pl a w →
      wpAnyR P md ops Q E M R0 fuel L a w := by
  have take : ∀ (R : World → World → Prop) (hR : Far R) (pure : Bool) (E' : List Nat) (hE' : ∀ j, (pure = true ∨ E'.contains j = false) → ∀ w w', eff E M R0 j w w' → R w w') (i : Nat) (r : List PStep) (fuel : Nat) (L : Array Bool) (l : List Nat) (a : Act) (w : World) (o : Oper) (v : Value), Rel ops L l → ops[i]? = some o → Qt P ops o v R w a →
      okTake (tabOf md ops) pure E' l i = true → wpAnyR P md ops Q E M R0 fuel (L.setIfInBounds i true) (a.put o.dst v) w → wpAnyR P md ops Q E M R0 (fuel + 1) L a w := by
    intro R hR pure E' hE' i r fuel L l a w o v hR' ho hy hok H
    simp only [okTake, tab_get ho, Bool.and_eq_true, Bool.not_eq_true'] at hok
    obtain ⟨⟨⟨⟨h0, h1⟩, h2⟩, h3⟩, h4⟩ := hok
    refine wpAnyR_first hR0 hR ho (Region.noSelect_spec hsel) (fun c a w => hQ c a _ _ w) (fun j => (growth i (!pure) E' (tabOf md ops) 0 l).contains j) ?_ fuel L a w ?_ ?_ ?_ hy H
    · intro j oj hoj hji hall
      have := closed_spec _ 0 h3 j _ (tab_get hoj) (by simpa using hji) (subset_row.2 hall)
      simpa using this
    · intro k hk
      rw [hR'.getDf] at hk
      exact growth_mem _ _ _ _ hk
    · intro j oj hoj hji hS hl
      rw [hR'.getDt (lt_of_get hoj)] at hl
      have := freeIn_spec _ 0 h4 j _ (tab_get hoj) (by simpa using hji) (by simpa using hS) (by simpa using hl)
      exact ⟨hE' j (by simpa using this.1), this.2⟩
    · exact (ready_iff hR').2 ⟨h0, o, ho, h1⟩
  have only : ∀ (k : Nat) (L : Array Bool) (l : List Nat), Rel ops L l → readyAt (tabOf md ops) l k = true → loneAt l k (tabOf md ops) 0 = true → (∃ o, ops[k]? = some o) ∧ k ∈ Region.ready md ops L ∧ ∀ j ∈ Region.ready md ops L, j = k := by
    intro k L l hR h1 h2
    have hrk : ∃ o, ops[k]? = some o ∧ l.contains k = false ∧ subset (rowOf md ops o).after l = true := by
      unfold readyAt at h1
      cases ht : (tabOf md ops)[k]? with
      | none => rw [ht] at h1; cases h1
      | some rr =>
        rw [ht] at h1
        obtain ⟨o, ho, rfl⟩ := tab_get' ht
        simp only [Bool.and_eq_true, Bool.not_eq_true'] at h1
        exact ⟨o, ho, h1.1, h1.2⟩
    obtain ⟨o, ho, hk0, hk1⟩ := hrk
    refine ⟨⟨o, ho⟩, (ready_iff hR).2 ⟨hk0, o, ho, hk1⟩, fun j hj => ?_⟩
    obtain ⟨hj0, oj, hoj, hjs⟩ := (ready_iff hR).1 hj
    have := loneAt_spec _ 0 h2 j _ (tab_get hoj) (by simpa using hj0) hjs
    omega
  intro pl
  induction pl with
  | nil =>
    intro fuel L l a w _ hR _ _ _ hok h
    have hr : Region.ready md ops L = [] := by
      apply List.eq_nil_iff_forall_not_mem.2
      intro j hj
      obtain ⟨h0, o, ho, hs⟩ := (ready_iff hR).1 hj
      exact noneReady_spec _ 0 hok j _ (tab_get ho) (by simpa using h0) hs
    cases fuel with
    | zero => exact fun w1 h1 => ⟨hr, h w1 h1⟩
    | succ fuel => exact fun w1 h1 => ⟨fun _ => h w1 h1, by rw [hr]; simp⟩
  | cons s r ih =>
    intro fuel L l a w hf hR hE hM hA hok h
    obtain ⟨fuel, rfl⟩ : ∃ m, fuel = m + 1 := ⟨fuel - 1, by simp at hf; omega⟩
    simp only [List.length_cons] at hf
    cases s with
    | p i =>
      obtain ⟨o, ho, v, hy, hn⟩ := h
      simp only [planOKR, Bool.and_eq_true] at hok
      exact take anyW .any true E (fun _ _ _ _ _ => trivial) i r fuel L l a w o v hR ho hy hok.1 (ih fuel _ (i :: l) _ w (by omega) (hR.cons (lt_of_get ho)) hE hM hA hok.2 hn)
    | q i =>
      obtain ⟨o, ho, v, hy, hn⟩ := h
      simp only [planOKR, Bool.and_eq_true] at hok
      refine take (Chg []) .grown false (E ++ M) (fun j hj w w' he => ?_) i r fuel L l a w o v hR ho hy hok.1 (ih fuel _ (i :: l) _ w (by omega) (hR.cons (lt_of_get ho)) hE hM hA hok.2 hn)
      rcases hj with hj | hj
      · cases hj
      · rw [List.contains_eq_mem, decide_eq_false_iff_not, List.mem_append, not_or] at hj
        exact he.2 (by simpa using hj.1) (by simpa using hj.2)
    | r i R =>
      obtain ⟨o, ho, v, hy, hn⟩ := h
      obtain ⟨rfl, hA⟩ := hA
      simp only [planOKR, Bool.and_eq_true] at hok
      refine take R hR0 false E (fun j hj w w' he => ?_) i r fuel L l a w o v hR ho hy hok.1 (ih fuel _ (i :: l) _ w (by omega) (hR.cons (lt_of_get ho)) hE hM hA hok.2 hn)
      rcases hj with hj | hj
      · cases hj
      · exact he.1 hj
    | x k =>
      simp only [planOKR, Bool.and_eq_true] at hok
      obtain ⟨⟨o, ho⟩, hmem, hall⟩ := only k L l hR hok.1.1 hok.1.2
      intro w1 hw1
      refine ⟨fun h0 => (by rw [h0] at hmem; cases hmem), fun j hj => ?_⟩
      obtain rfl := hall j hj
      exact wpOp_mono (fun a' w' h' => ⟨.grown hR0 h'.1, ih fuel _ (j :: l) a' w' (by omega) (hR.cons (lt_of_get ho)) hE hM hA hok.2 h'.2⟩) (h w1 hw1)
    | s k R =>
      obtain ⟨rfl, hA⟩ := hA
      simp only [planOKR, Bool.and_eq_true] at hok
      obtain ⟨⟨o, ho⟩, hmem, hall⟩ := only k L l hR hok.1.1 hok.1.2
      intro w1 hw1
      refine ⟨fun h0 => (by rw [h0] at hmem; cases hmem), fun j hj => ?_⟩
      obtain rfl := hall j hj
      refine wpOp_mono (fun a' w' h' => ⟨⟨fun _ => h'.1, fun _ hc => ?_⟩, ih fuel _ (j :: l) a' w' (by omega) (hR.cons (lt_of_get ho)) hE (fun i hi => hM i (by simp [marked, hi])) hA hok.2 h'.2⟩) (h w1 hw1)
      have := hM j (by simp [marked])
      rw [this] at hc; cases hc
    | e k =>
      simp only [planOKR, Bool.and_eq_true] at hok
      obtain ⟨⟨o, ho⟩, hmem, hall⟩ := only k L l hR hok.1.1 hok.1.2
      intro w1 hw1
      refine ⟨fun h0 => (by rw [h0] at hmem; cases hmem), fun j hj => ?_⟩
      obtain rfl := hall j hj
      have hEj := hE j (by simp [effects])
      exact wpOp_mono (fun a' w' h' => ⟨⟨fun hc => (by rw [hEj] at hc; cases hc), fun hc => (by rw [hEj] at hc; cases hc)⟩, ih fuel _ (j :: l) a' w' (by omega) (hR.cons (lt_of_get ho)) (fun i hi => hE i (by simp [effects, hi])) hM hA hok.2 h'⟩) (h w1 hw1)
theorem wp_region_planR {id : Nat} {l : List Oper} {a : Act} {w : World} (R0 : World → World → Prop) (hR0 : Far R0) (pl : List PStep) (hA : AllR R0 pl) (hm : P.follows .mixedOrders = true) (hsel : Region.noSelect l.toArray = true) (hlen : (pl.length ≤ l.toArray.size : Bool) = true)
    (hok : planOKR (tabOf .any l.toArray) (effects pl) (marked pl) pl [] = true) (hQ : ∀ c a d v w, Q (.panic c) (a.put d v) w → Q (.panic c) a w) (h : wpPlan P l.toArray Q pl a w) : (Code.region id l.toArray true).wp P Q a w :=
  wp_region_any hm (wpAny_of_R _ _ _ _ (wpAnyR.grow (wpAnyR_plan (E := effects pl) (M := marked pl) hR0 hsel hQ pl _ _ [] _ _ (by simpa using hlen) Rel.start (fun i hi => by simpa using hi) (fun i hi => by simpa using hi) hA hok h) (Chg.drew (.refl _ _))))
theorem wp_region_plan {id : Nat} {l : List Oper} {a : Act} {w : World} (pl : List PStep) (hm : P.follows .mixedOrders = true) (hsel : Region.noSelect l.toArray = true) (hlen : (pl.length ≤ l.toArray.size : Bool) = true)
    (hok : planOK (tabOf .any l.toArray) (effects pl) pl [] = true) (hQ : ∀ c a d v w, Q (.panic c) (a.put d v) w → Q (.panic c) a w) (h : wpPlan P l.toArray Q pl a w) : (Code.region id l.toArray true).wp P Q a w :=
  have hp := planOK_R pl [] hok
  wp_region_planR (Chg []) .grown pl hp.2.2 hm hsel hlen (by rw [hp.2.1]; exact hp.1) hQ h
def PStep.idx : PStep → Nat
  | .p i | .q i | .r i _ | .x i | .s i _ | .e i => i
def FarR : List PStep → Prop
  | [] => True
  | .r _ R :: r => Far R ∧ FarR r
  | _ :: r => FarR r
theorem wpOps_of_plan : ∀ (pl : List PStep) (a : Act) (w w1 : World), FarR pl → Chg [] w w1 → wpPlan P ops Q pl a w → wpOps P ops Q (pl.map PStep.idx) a w1
  | [], _, _, w1, _, hw, h => h w1 hw
  | .p i :: r, a, w, w1, hF, hw, ⟨o, ho, v, hy, hn⟩ => by
    rw [List.map_cons, wpOps_cons]
    exact (hy.grow .any (Far.any.of _ _ hw)).wpOp .any ho fun w2 h2 => wpOps_of_plan r _ w w2 hF (hw.trans h2) hn
  | .q i :: r, a, w, w1, hF, hw, ⟨o, ho, v, hy, hn⟩ => by
    rw [List.map_cons, wpOps_cons]
    exact (hy.grow .grown hw).wpOp .grown ho fun w2 h2 => wpOps_of_plan r _ w w2 hF (hw.trans h2) hn
  | .r i R :: r, a, w, w1, hF, hw, ⟨o, ho, v, hy, hn⟩ => by
    rw [List.map_cons, wpOps_cons]
    exact (hy.grow hF.1 (hF.1.of _ _ hw)).wpOp hF.1 ho fun w2 h2 => wpOps_of_plan r _ w w2 hF.2 (hw.trans h2) hn
  | .x i :: r, a, w, w1, hF, hw, h => by
    rw [List.map_cons, wpOps_cons]
    exact wpOp_mono (fun a' w' h' => wpOps_of_plan r a' w' w' hF (.refl _ _) h'.2) (h w1 hw)
  | .s i R :: r, a, w, w1, hF, hw, h => by
    rw [List.map_cons, wpOps_cons]
    exact wpOp_mono (fun a' w' h' => wpOps_of_plan r a' w' w' hF (.refl _ _) h'.2) (h w1 hw)
  | .e i :: r, a, w, w1, hF, hw, h => by
    rw [List.map_cons, wpOps_cons]
    exact wpOp_mono (fun a' w' h' => wpOps_of_plan r a' w' w' hF (.refl _ _) h') (h w1 hw)
def noR : List PStep → Bool
  | [] => true
  | .r _ _ :: _ => false
  | _ :: r => noR r
theorem FarR_of_no : ∀ pl, noR pl = true → FarR pl
  | [], _ => trivial
  | .r _ _ :: r, h => by simp [noR] at h
  | .s _ _ :: r, h => FarR_of_no r h
  | .p _ :: r, h => FarR_of_no r h
  | .q _ :: r, h => FarR_of_no r h
  | .x _ :: r, h => FarR_of_no r h
  | .e _ :: r, h => FarR_of_no r h
theorem wp_region_text {id : Nat} {l : List Oper} {a : Act} {w : World} (pl : List PStep) (hpl : pl.map PStep.idx = List.range l.toArray.size) (h : wpPlan P l.toArray Q pl a w) (hF : noR pl = true := by rfl) : (Code.region id l.toArray false).wp P Q a w :=
  wp_region (by rw [← hpl]; exact wpOps_of_plan pl a w w (FarR_of_no pl hF) (.refl _ _) h)
end
end Go.Proofs.YtmoaddicejohgaaDoor
set_option linter.unusedSimpArgs false
set_option linter.unusedVariables false
namespace Go.Proofs.YtmoaddicejohgaaDoor
open Go
def szc (P : Program) (t : TypeId) : Option Nat := (P.info? t).map (·.size)
def PRun (P : Program) (o : Oper) (a : Act) (v : Value) : Prop := ∀ w, (execOp a.eval o).run P w = .ok (.value v) w
def LRun (P : Program) (o : Oper) (a : Act) (w : World) (v : Value) : Prop := (execOp a.eval o).run P w = .ok (.value v) w
theorem PRun.l {P : Program} {o : Oper} {a : Act} {v : Value} (h : PRun P o a v) (w : World) : LRun P o a w v := h w
section
variable {P : Program} {a : Act} {d : Option Tmp} {ty : TypeId} {pos : String} {af : Array Edge} {g : Option (Nat × Bool)} {x y : Operand} {t : TypeId}
theorem run_ok_value {s : Sem Value} {w w' : World} {v : Value} (h : s.run P w = .ok v w') : (do pure (.value (← s)) : Sem Next).run P w = .ok (.value v) w' := by
  rw [Sem.run_bind, h]; rfl
theorem pr_move : PRun P ⟨d, .move x, ty, pos, af, g⟩ a (a.eval x) := fun _ => rfl
theorem pr_assign : PRun P ⟨d, .assign x, ty, pos, af, g⟩ a (a.eval x) := fun _ => rfl
theorem pr_bin {op : BinOp} {vx vy v : Value} {t' : TypeId} (hx : a.eval x = vx) (hy : a.eval y = vy) (h : Bin P op t x y vx vy v) : PRun P ⟨d, .binOp op t x y t', ty, pos, af, g⟩ a v := fun w => by
  subst hx; subst hy; exact run_ok_value (h w)
theorem pr_conv {s : TypeId} {vx v : Value} (hx : a.eval x = vx) (h : Cnv P s t vx v) : PRun P ⟨d, .convert s t x, ty, pos, af, g⟩ a v := fun w => by
  subst hx; exact run_ok_value (h w)
theorem pr_not {b : Bool} (hx : a.eval x = .bool b) : PRun P ⟨d, .unOp .not t x, ty, pos, af, g⟩ a (.bool !b) := fun w => by
  refine run_ok_value (w := w) ?_
  rw [hx]; rfl
theorem pr_neg64 {b : UInt64} (hx : a.eval x = V64 b) : PRun P ⟨d, .unOp .neg t x, ty, pos, af, g⟩ a (V64 (-b)) := fun w => by
  refine run_ok_value (w := w) ?_
  rw [hx]
  have h := bin_sub_u64 (P := P) (t := t) (x := x) (y := x) 0 b w
  rw [Sem.run_bind, run_eqGuard_int] at h
  rw [show -b = 0 - b by simp]
  exact h
theorem pr_extract {vs : Array Value} {i : Nat} {v : Value} (hx : a.eval x = .tuple vs) (hv : vs[i]? = some v) : PRun P ⟨d, .extract x i, ty, pos, af, g⟩ a v := fun w => by
  refine run_ok_value (w := w) ?_
  simp only [hx, Instr.extract, hv]; rfl
theorem pr_pick {c : Operand} {b : Bool} (hc : a.eval c = .bool b) : PRun P ⟨d, .pick c x y, ty, pos, af, g⟩ a (if b then a.eval x else a.eval y) := fun w => by
  simp only [execOp, hc, asBool, Sem.run_bind, Sem.run_pure, Result.andThen_ok]
theorem pr_move_v {v : Value} (hx : a.eval x = v) : PRun P ⟨d, .move x, ty, pos, af, g⟩ a v := hx ▸ pr_move
theorem pr_pick_t {c : Operand} (hc : a.eval c = .bool true) : PRun P ⟨d, .pick c x y, ty, pos, af, g⟩ a (a.eval x) := pr_pick (b := true) hc
theorem pr_pick_f {c : Operand} (hc : a.eval c = .bool false) : PRun P ⟨d, .pick c x y, ty, pos, af, g⟩ a (a.eval y) := pr_pick (b := false) hc
theorem pr_nilCheck {ad : Addr} (hx : a.eval x = .pointer (some ad)) : PRun P ⟨d, .nilCheck x, ty, pos, af, g⟩ a (.pointer (some ad)) := fun w => by
  simp only [execOp, hx]; rfl
theorem pr_len_sl {e : TypeId} {ad : Option Addr} {n c : Nat} (hx : a.eval x = .slice ad n c) (hu : P.underlying t = some (.slice e)) : PRun P ⟨d, .call ⟨.builtin .len, #[x], #[t]⟩, ty, pos, af, g⟩ a (I64 (n : Nat)) := fun w => by
  simp [execOp, resolve, invoke, builtin, Builtin.len_, hx, run_underlying hu, goInt]
theorem pr_len_str {s : ByteArray} (hx : a.eval x = .string s) (hu : P.underlying t = some .string) : PRun P ⟨d, .call ⟨.builtin .len, #[x], #[t]⟩, ty, pos, af, g⟩ a (I64 (s.size : Nat)) := fun w => by
  simp [execOp, resolve, invoke, builtin, Builtin.len_, hx, run_underlying hu, goInt]
theorem pr_min {k k' : IntKind} {m n : Int} {ts : Array TypeId} (hx : a.eval x = .int k m) (hy : a.eval y = .int k' n) : PRun P ⟨d, .call ⟨.builtin .min, #[x, y], ts⟩, ty, pos, af, g⟩ a (.int k (if n < m then n else m)) := fun w => by
  simp [execOp, resolve, invoke, builtin, Builtin.min_, Builtin.min2, hx, hy]
theorem pr_min_n {m n : Nat} {ts : Array TypeId} (hx : a.eval x = I64 m) (hy : a.eval y = I64 n) : PRun P ⟨d, .call ⟨.builtin .min, #[x, y], ts⟩, ty, pos, af, g⟩ a (I64 (min m n : Nat)) := fun w => by
  rw [pr_min hx hy w]
  have : (if (n : Int) < (m : Int) then (n : Int) else (m : Int)) = ((min m n : Nat) : Int) := by split <;> omega
  rw [this]
theorem addr_add (b o n : Nat) : (⟨b, o, none⟩ : Addr).add n = ⟨b, o + n, none⟩ := by unfold Addr.add; split <;> simp_all
theorem run_sizeOf {n : Nat} (h : szc P t = some n) (w : World) : (sizeOf t).run P w = .ok n w := by
  unfold szc at h
  obtain ⟨i, hi, rfl⟩ := Option.map_eq_some_iff.1 h
  simp [sizeOf, typeInfo, hi]
theorem pr_fieldAddr {fs : List Field} {f : Field} {i b o n : Nat} (off : Nat) (hx : a.eval x = PT b o) (hu : P.underlying t = some (.struct fs.toArray)) (hf : fs[i]? = some f) (ho : f.offset = off) (hz : szc P f.type = some (n + 1)) :
    PRun P ⟨d, .fieldAddr t x i, ty, pos, af, g⟩ a (PT b (o + off)) := fun w => by
  refine run_ok_value (w := w) ?_
  simp [hx, Instr.fieldAt, run_underlying hu, hf, Instr.sureAddr, fieldPlace, run_sizeOf hz, addr_add, ho]
theorem pr_idxA {k : IntKind} {e : TypeId} {n s b o i : Nat} (hx : a.eval x = PT b o) (hy : a.eval y = .int k (i : Int)) (hu : P.underlying t = some (.array n e)) (hs : szc P e = some s) (hi : i < n) :
    PRun P ⟨d, .indexAddr t x y, ty, pos, af, g⟩ a (PT b (o + i * s)) := fun w => by
  refine run_ok_value (w := w) ?_
  have h1 : (0 : Int) ≤ (i : Int) ∧ (i : Int) < (n : Int) := by omega
  simp [hx, hy, Instr.indexAt, asIntOf, run_underlying hu, Instr.sureAddr, run_sizeOf hs, addr_add]
  omega
theorem pr_idxA1 {k : IntKind} {e : TypeId} {n b o i : Nat} (hx : a.eval x = PT b o) (hy : a.eval y = .int k (i : Int)) (hu : P.underlying t = some (.array n e)) (hs : szc P e = some 1) (hi : i < n) :
    PRun P ⟨d, .indexAddr t x y, ty, pos, af, g⟩ a (PT b (o + i)) := by
  have := pr_idxA (d := d) (ty := ty) (pos := pos) (af := af) (g := g) hx hy hu hs hi
  simpa using this
theorem pr_idxS {k : IntKind} {e : TypeId} {n c s b o i : Nat} (hx : a.eval x = .slice (some ⟨b, o, none⟩) n c) (hy : a.eval y = .int k (i : Int)) (hu : P.underlying t = some (.slice e)) (hs : szc P e = some s) (hi : i < n) :
    PRun P ⟨d, .indexAddr t x y, ty, pos, af, g⟩ a (PT b (o + i * s)) := fun w => by
  refine run_ok_value (w := w) ?_
  have h1 : (0 : Int) ≤ (i : Int) ∧ (i : Int) < (n : Int) := by omega
  simp [hx, hy, Instr.indexAt, asIntOf, run_underlying hu, run_sizeOf hs, addr_add]
  omega
theorem pr_idxS1 {k : IntKind} {e : TypeId} {n c b o i : Nat} (hx : a.eval x = .slice (some ⟨b, o, none⟩) n c) (hy : a.eval y = .int k (i : Int)) (hu : P.underlying t = some (.slice e)) (hs : szc P e = some 1) (hi : i < n) :
    PRun P ⟨d, .indexAddr t x y, ty, pos, af, g⟩ a (PT b (o + i)) := by
  have := pr_idxS (d := d) (ty := ty) (pos := pos) (af := af) (g := g) hx hy hu hs hi
  simpa using this
theorem pr_index_str {k : IntKind} {i : Nat} {s : ByteArray} (hx : a.eval x = .string s) (hy : a.eval y = .int k (i : Int)) (hu : P.underlying t = some .string) (hi : i < s.size) :
    PRun P ⟨d, .index t x y, ty, pos, af, g⟩ a (V8 (s[i]'hi)) := fun w => by
  refine run_ok_value (w := w) ?_
  have h1 : (0 : Int) ≤ (i : Int) := by omega
  simp [hx, hy, Instr.index, asIntOf, run_underlying hu, hi]
theorem pr_index_arr {k : IntKind} {e : TypeId} {n i : Nat} {cs : Array Value} {v : Value} (hx : a.eval x = .agg cs) (hy : a.eval y = .int k (i : Int)) (hu : P.underlying t = some (.array n e)) (hs : szc P e = some 1)
    (hz : ∀ w, (isAgg e).run P w = .ok false w) (hi : i < n) (hv : cs[i]? = some v) : PRun P ⟨d, .index t x y, ty, pos, af, g⟩ a v := fun w => by
  refine run_ok_value (w := w) ?_
  have h1 : (0 : Int) ≤ (i : Int) ∧ (i : Int) < (n : Int) := by omega
  simp [hx, hy, Instr.index, asIntOf, run_underlying hu, run_sizeOf hs, part, hz, hv]
  omega
theorem run_bound {k : IntKind} {i y : Nat} (h : i ≤ y) (c : BoundsCode) (w : World) : (Instr.sliceBound (.int k (i : Int)) y c).run P w = .ok i w := by
  have h1 : (0 : Int) ≤ (i : Int) ∧ (i : Int) ≤ (y : Int) := by omega
  simp [Instr.sliceBound, asIntOf]
  omega
def cutA (ad : Option Addr) (l m s : Nat) : Option Addr := if m = l then ad else ad.map (·.add (l * s))
theorem pr_slice_lh {k k' : IntKind} {e : TypeId} {ad : Option Addr} {n c s l h : Nat} {xl xh : Operand} (hx : a.eval x = .slice ad n c) (hl : a.eval xl = .int k (l : Int)) (hh : a.eval xh = .int k' (h : Int))
    (hu : P.underlying t = some (.slice e)) (hs : szc P e = some s) (h1 : l ≤ h) (h2 : h ≤ c) : PRun P ⟨d, .slice t x (some xl) (some xh) none, ty, pos, af, g⟩ a (.slice (cutA ad l c s) (h - l) (c - l)) := fun w => by
  refine run_ok_value (w := w) ?_
  simp [hx, hl, hh, Instr.sliceAt, Instr.slice, run_underlying hu, Instr.sliceBounds, run_bound h1, run_bound h2, run_sizeOf hs, cutA]
theorem pr_slice_h {k' : IntKind} {e : TypeId} {ad : Option Addr} {n c s h : Nat} {xh : Operand} (hx : a.eval x = .slice ad n c) (hh : a.eval xh = .int k' (h : Int))
    (hu : P.underlying t = some (.slice e)) (hs : szc P e = some s) (h2 : h ≤ c) : PRun P ⟨d, .slice t x none (some xh) none, ty, pos, af, g⟩ a (.slice ad h c) := fun w => by
  refine run_ok_value (w := w) ?_
  have e0 : (if c = 0 then ad else ad.map fun a => a.add 0) = ad := by
    split
    · rfl
    · cases ad <;> simp [Addr.add]
  simp [hx, hh, Instr.sliceAt, Instr.slice, run_underlying hu, Instr.sliceBounds, run_bound h2, run_sizeOf hs, e0]
theorem pr_slice_l {k : IntKind} {e : TypeId} {ad : Option Addr} {n c s l : Nat} {xl : Operand} (hx : a.eval x = .slice ad n c) (hl : a.eval xl = .int k (l : Int))
    (hu : P.underlying t = some (.slice e)) (hs : szc P e = some s) (h1 : l ≤ n) : PRun P ⟨d, .slice t x (some xl) none none, ty, pos, af, g⟩ a (.slice (cutA ad l c s) (n - l) (c - l)) := fun w => by
  refine run_ok_value (w := w) ?_
  simp [hx, hl, Instr.sliceAt, Instr.slice, run_underlying hu, Instr.sliceBounds, run_bound h1, run_sizeOf hs, cutA]
theorem pr_slice_str_h {k' : IntKind} {st : ByteArray} {h : Nat} {xh : Operand} (hx : a.eval x = .string st) (hh : a.eval xh = .int k' (h : Int))
    (hu : P.underlying t = some .string) (h2 : h ≤ st.size) : PRun P ⟨d, .slice t x none (some xh) none, ty, pos, af, g⟩ a (.string (st.extract 0 h)) := fun w => by
  refine run_ok_value (w := w) ?_
  simp [hx, hh, Instr.sliceAt, Instr.slice, run_underlying hu, Instr.sliceBounds, run_bound h2]
theorem pr_slice_arr_lh {k k' : IntKind} {e : TypeId} {n s b o l h : Nat} {xl xh : Operand} (hx : a.eval x = PT b o) (hl : a.eval xl = .int k (l : Int)) (hh : a.eval xh = .int k' (h : Int))
    (hu : P.underlying t = some (.array n e)) (hs : szc P e = some s) (h1 : l ≤ h) (h2 : h ≤ n) : PRun P ⟨d, .slice t x (some xl) (some xh) none, ty, pos, af, g⟩ a (.slice (cutA (some ⟨b, o, none⟩) l n s) (h - l) (n - l)) := fun w => by
  refine run_ok_value (w := w) ?_
  simp only [hx, hl, hh, Option.map_some, Option.map_none, Instr.sliceAt, run_underlying hu, Sem.run_bind, Result.andThen_ok, Instr.sureAddr, Instr.sliceBounds, run_bound h1, run_bound h2, run_sizeOf hs, cutA, Sem.run_pure]
  split <;> rfl
theorem pr_slice_arr_all {e : TypeId} {n s b o : Nat} (hx : a.eval x = PT b o) (hu : P.underlying t = some (.array n e)) (hs : szc P e = some s) : PRun P ⟨d, .slice t x none none none, ty, pos, af, g⟩ a (.slice (some ⟨b, o, none⟩) n n) := fun w => by
  refine run_ok_value (w := w) ?_
  simp [hx, Instr.sliceAt, run_underlying hu, Instr.sureAddr, Instr.sliceBounds, run_sizeOf hs, Addr.add]
theorem pr_slice_arr_h {k' : IntKind} {e : TypeId} {n s b o h : Nat} {xh : Operand} (hx : a.eval x = PT b o) (hh : a.eval xh = .int k' (h : Int))
    (hu : P.underlying t = some (.array n e)) (hs : szc P e = some s) (h2 : h ≤ n) : PRun P ⟨d, .slice t x none (some xh) none, ty, pos, af, g⟩ a (.slice (some ⟨b, o, none⟩) h n) := fun w => by
  refine run_ok_value (w := w) ?_
  simp [hx, hh, Instr.sliceAt, run_underlying hu, Instr.sureAddr, Instr.sliceBounds, run_bound h2, run_sizeOf hs, Addr.add]
theorem pr_slice_arr_l {k : IntKind} {e : TypeId} {n s b o l : Nat} {xl : Operand} (hx : a.eval x = PT b o) (hl : a.eval xl = .int k (l : Int))
    (hu : P.underlying t = some (.array n e)) (hs : szc P e = some s) (h1 : l ≤ n) : PRun P ⟨d, .slice t x (some xl) none none, ty, pos, af, g⟩ a (.slice (cutA (some ⟨b, o, none⟩) l n s) (n - l) (n - l)) := fun w => by
  refine run_ok_value (w := w) ?_
  simp only [hx, hl, Option.map_some, Option.map_none, Instr.sliceAt, run_underlying hu, Sem.run_bind, Result.andThen_ok, Instr.sureAddr, Instr.sliceBounds, run_bound h1, run_sizeOf hs, cutA, Sem.run_pure]
  split <;> rfl
theorem pr_s2ap {e : TypeId} {ad : Addr} {m n c : Nat} (hx : a.eval x = .slice (some ad) n c) (hu : P.underlying t = some (.array m e)) (h : m ≤ n) : PRun P ⟨d, .sliceToArrayPointer t x, ty, pos, af, g⟩ a (.pointer (some ad)) := fun w => by
  refine run_ok_value (w := w) ?_
  have h1 : ¬ n < m := by omega
  simp [hx, Instr.arrayAt, run_underlying hu, h1]
end
end Go.Proofs.YtmoaddicejohgaaDoor
set_option linter.unusedSimpArgs false
set_option linter.unusedVariables false
namespace Go.Proofs.YtmoaddicejohgaaDoor
open Go
theorem wrap_i64_in (n : Int) (h1 : -9223372036854775808 ≤ n) (h2 : n < 9223372036854775808) : IntKind.i64.wrap n = n := by
  simp only [IntKind.wrap, IntKind.bits, IntKind.signed]
  simp
  omega
section
variable {P : Program} {t ty : TypeId} {x y : Operand}
theorem bin_add_i {m n : Int} (h1 : -9223372036854775808 ≤ m + n) (h2 : m + n < 9223372036854775808) : Bin P .add t x y (I64 m) (I64 n) (I64 (m + n)) := bin_of_int fun w => by
  show Result.ok (Value.int .i64 (IntKind.i64.wrap (m + n))) w = _
  rw [wrap_i64_in _ h1 h2]
theorem bin_sub_i {m n : Int} (h1 : -9223372036854775808 ≤ m - n) (h2 : m - n < 9223372036854775808) : Bin P .sub t x y (I64 m) (I64 n) (I64 (m - n)) := bin_of_int fun w => by
  show Result.ok (Value.int .i64 (IntKind.i64.wrap (m - n))) w = _
  rw [wrap_i64_in _ h1 h2]
theorem bin_mul_i {m n : Int} (h1 : -9223372036854775808 ≤ m * n) (h2 : m * n < 9223372036854775808) : Bin P .mul t x y (I64 m) (I64 n) (I64 (m * n)) := bin_of_int fun w => by
  show Result.ok (Value.int .i64 (IntKind.i64.wrap (m * n))) w = _
  rw [wrap_i64_in _ h1 h2]
theorem bin_add_n {m n : Nat} (h : m + n < 9223372036854775808) : Bin P .add t x y (I64 m) (I64 n) (I64 (m + n : Nat)) := by
  have := bin_add_i (P := P) (t := t) (x := x) (y := y) (m := m) (n := n) (by omega) (by omega)
  rwa [show ((m : Int) + n) = ((m + n : Nat) : Int) by omega] at this
theorem bin_sub_n {m n : Nat} (h : n ≤ m) (hm : m < 9223372036854775808) : Bin P .sub t x y (I64 m) (I64 n) (I64 (m - n : Nat)) := by
  have := bin_sub_i (P := P) (t := t) (x := x) (y := y) (m := m) (n := n) (by omega) (by omega)
  rwa [show ((m : Int) - n) = ((m - n : Nat) : Int) by omega] at this
theorem bin_mul_n {m n : Nat} (h : m * n < 9223372036854775808) : Bin P .mul t x y (I64 m) (I64 n) (I64 (m * n : Nat)) := by
  have e : (m : Int) * n = ((m * n : Nat) : Int) := by simp
  have := bin_mul_i (P := P) (t := t) (x := x) (y := y) (m := m) (n := n) (by rw [e]; omega) (by rw [e]; omega)
  rwa [e] at this
theorem bin_quo_n {m n : Nat} (hn : 0 < n) (hm : m < 9223372036854775808) : Bin P .quo t x y (I64 m) (I64 n) (I64 (m / n : Nat)) := bin_of_int fun w => by
  have h0 : ¬ ((n : Int) = 0) := by omega
  show (Op.intDiv .quo .i64 (m : Int) (n : Int)).run P w = _
  have e : (m : Int).tdiv n = ((m / n : Nat) : Int) := by simp
  have hd : m / n ≤ m := Nat.div_le_self _ _
  simp only [Op.intDiv, h0, if_false, e]
  show Result.ok (Value.int .i64 (IntKind.i64.wrap ((m / n : Nat) : Int))) w = _
  rw [wrap_i64_in _ (by have := Int.natCast_nonneg (m / n); omega) (by have : ((m / n : Nat) : Int) ≤ m := by exact_mod_cast hd
                                                                       omega)]
theorem bin_rem_n {m n : Nat} (hn : 0 < n) : Bin P .rem t x y (I64 m) (I64 n) (I64 (m % n : Nat)) := bin_of_int fun w => by
  have h0 : ¬ ((n : Int) = 0) := by omega
  show (Op.intDiv .rem .i64 (m : Int) (n : Int)).run P w = _
  have e : (m : Int).tmod n = ((m % n : Nat) : Int) := by rw [Int.tmod_eq_emod_of_nonneg (by omega)]; simp
  simp only [Op.intDiv, h0, if_false, e]
  rfl
theorem bin_shl_n {m c : Nat} {k : IntKind} (hc : c < 64) (h : m * 2 ^ c < 9223372036854775808) : Bin P .shl t x y (I64 m) (.int k (c : Int)) (I64 (m * 2 ^ c : Nat)) := bin_of_int fun w => by
  have h0 : ¬ ((c : Int) < 0) := by omega
  show (Op.shift .shl .i64 (m : Int) k (c : Int)).run P w = _
  have e : (m : Int) * 2 ^ (min c 64) = ((m * 2 ^ c : Nat) : Int) := by rw [Nat.min_eq_left (by omega)]; simp
  simp only [Op.shift, h0, if_false, Int.toNat_natCast, IntKind.bits, e, wrap_i64_in _ (show (-9223372036854775808 : Int) ≤ ((m * 2 ^ c : Nat) : Int) by omega) (by omega)]
  rfl
theorem bin_shr_n {m c : Nat} {k : IntKind} (hc : c < 64) : Bin P .shr t x y (I64 m) (.int k (c : Int)) (I64 (m / 2 ^ c : Nat)) := bin_of_int fun w => by
  have h0 : ¬ ((c : Int) < 0) := by omega
  show (Op.shift .shr .i64 (m : Int) k (c : Int)).run P w = _
  have e : Int.fdiv (m : Int) (2 ^ (min c 64)) = ((m / 2 ^ c : Nat) : Int) := by
    rw [Nat.min_eq_left (by omega), show ((2 : Int) ^ c) = ((2 ^ c : Nat) : Int) by simp]
    rw [Int.natCast_ediv, Int.fdiv_eq_ediv_of_nonneg _ (Int.natCast_nonneg _)]
  simp only [Op.shift, h0, if_false, Int.toNat_natCast, IntKind.bits, e]
  rfl
theorem bin_eql_i {m n : Int} : Bin P .eql t x y (I64 m) (I64 n) (BV (m == n)) := bin_of_int fun w => rfl
theorem bin_eql_n {m n : Nat} : Bin P .eql t x y (I64 m) (I64 n) (BV (m == n)) := by
  have h := bin_eql_i (P := P) (t := t) (x := x) (y := y) (m := m) (n := n)
  have e : ((m : Int) == (n : Int)) = (m == n) := by rw [Bool.eq_iff_iff]; simp; omega
  rwa [e] at h
theorem bin_neq_i {m n : Int} : Bin P .neq t x y (I64 m) (I64 n) (BV (m != n)) := bin_of_int fun w => rfl
theorem bin_neq_n {m n : Nat} : Bin P .neq t x y (I64 m) (I64 n) (BV (m != n)) := by
  have h := bin_neq_i (P := P) (t := t) (x := x) (y := y) (m := m) (n := n)
  have e : ((m : Int) != (n : Int)) = (m != n) := by rw [Bool.eq_iff_iff]; simp; omega
  rwa [e] at h
theorem bin_lss_i {m n : Int} : Bin P .lss t x y (I64 m) (I64 n) (BV (decide (m < n))) := bin_of_int fun w => rfl
theorem bin_lss_n {m n : Nat} : Bin P .lss t x y (I64 m) (I64 n) (BV (decide (m < n))) := by
  have h := bin_lss_i (P := P) (t := t) (x := x) (y := y) (m := m) (n := n)
  have e : (decide ((m : Int) < (n : Int))) = (decide (m < n)) := by rw [Bool.eq_iff_iff]; simp
  rwa [e] at h
theorem bin_leq_i {m n : Int} : Bin P .leq t x y (I64 m) (I64 n) (BV (decide (m ≤ n))) := bin_of_int fun w => rfl
theorem bin_leq_n {m n : Nat} : Bin P .leq t x y (I64 m) (I64 n) (BV (decide (m ≤ n))) := by
  have h := bin_leq_i (P := P) (t := t) (x := x) (y := y) (m := m) (n := n)
  have e : (decide ((m : Int) ≤ (n : Int))) = (decide (m ≤ n)) := by rw [Bool.eq_iff_iff]; simp
  rwa [e] at h
theorem bin_gtr_i {m n : Int} : Bin P .gtr t x y (I64 m) (I64 n) (BV (decide (m > n))) := bin_of_int fun w => rfl
theorem bin_gtr_n {m n : Nat} : Bin P .gtr t x y (I64 m) (I64 n) (BV (decide (m > n))) := by
  have h := bin_gtr_i (P := P) (t := t) (x := x) (y := y) (m := m) (n := n)
  have e : (decide ((m : Int) > (n : Int))) = (decide (m > n)) := by rw [Bool.eq_iff_iff]; simp
  rwa [e] at h
theorem bin_geq_i {m n : Int} : Bin P .geq t x y (I64 m) (I64 n) (BV (decide (m ≥ n))) := bin_of_int fun w => rfl
theorem bin_geq_n {m n : Nat} : Bin P .geq t x y (I64 m) (I64 n) (BV (decide (m ≥ n))) := by
  have h := bin_geq_i (P := P) (t := t) (x := x) (y := y) (m := m) (n := n)
  have e : (decide ((m : Int) ≥ (n : Int))) = (decide (m ≥ n)) := by rw [Bool.eq_iff_iff]; simp
  rwa [e] at h
theorem run_equalIn_pn (d : Nat) {e : TypeId} {p : Option Addr} (hu : P.underlying t = some (.pointer e)) (w : World) : (Op.equalIn (d + 1) t (.pointer p) (.pointer none)).run P w = .ok p.isNone w := by
  cases p <;> simp [Op.equalIn, run_underlying hu]
theorem run_binOp_eql {vx vy : Value} {b : Bool} (hb : binOp .eql t vx vy = do pure (.bool (← Op.equal t vx vy))) (h : ∀ d w, (Op.equalIn (d + 1) t vx vy).run P w = .ok b w) (w : World) : (binOp .eql t vx vy).run P w = .ok (.bool b) w := by
  rw [hb, Sem.run_bind]
  have := h 9999 w
  show (Sem.run P (Op.equalIn (9999 + 1) t vx vy) w).andThen _ = _
  rw [this]; rfl
theorem bin_eql_s {a b : ByteArray} : Bin P .eql t x y (.string a) (.string b) (BV (a.data.toList == b.data.toList)) := bin_of_string fun w => by
  rw [binOp_string_eql, ByteArray.toList_eq, ByteArray.toList_eq]; rfl
theorem bin_neq_s {a b : ByteArray} : Bin P .neq t x y (.string a) (.string b) (BV (!(a.data.toList == b.data.toList))) := bin_of_string fun w => by
  rw [binOp_string_neq, ByteArray.toList_eq, ByteArray.toList_eq]; rfl
theorem bin_eql_pn {e : TypeId} {p : Option Addr} (hu : P.underlying t = some (.pointer e)) : Bin P .eql t x y (.pointer p) (.pointer none) (BV p.isNone) := bin_of_pointer fun w => run_binOp_eql rfl (fun d w => run_equalIn_pn d hu w) w
theorem cnv_int {s : TypeId} {ds : TypeDesc} {k k0 : IntKind} {n : Int} (hs : P.underlying s = some ds) (hd : P.underlying t = some (.int k)) : Cnv P s t (.int k0 n) (.int k (k.wrap n)) := fun w => by
  simp only [convert, Sem.run_bind, run_underlying hs, run_underlying hd, Result.andThen_ok]
  cases ds <;> rfl
theorem cnv_u8_u32 {s : TypeId} {ds : TypeDesc} (a : UInt8) (hs : P.underlying s = some ds) (hd : P.underlying t = some (.int .u32)) : Cnv P s t (V8 a) (V32 a.toUInt32) := by
  have h := cnv_int (P := P) (k0 := .u8) (n := ((a.toNat : Nat) : Int)) hs hd
  rw [wrap_u32, Nat.mod_eq_of_lt (by have := lt_u8 a; omega), ← UInt8.toNat_toUInt32] at h
  exact h
theorem cnv_u8_u64 {s : TypeId} {ds : TypeDesc} (a : UInt8) (hs : P.underlying s = some ds) (hd : P.underlying t = some (.int .u64)) : Cnv P s t (V8 a) (V64 a.toUInt64) := by
  have h := cnv_int (P := P) (k0 := .u8) (n := ((a.toNat : Nat) : Int)) hs hd
  rw [wrap_u64, Nat.mod_eq_of_lt (by have := lt_u8 a; omega), ← UInt8.toNat_toUInt64] at h
  exact h
theorem cnv_n_u8 {s : TypeId} {ds : TypeDesc} {n : Nat} (hs : P.underlying s = some ds) (hd : P.underlying t = some (.int .u8)) : Cnv P s t (I64 n) (V8 (UInt8.ofNat n)) := by
  have h := cnv_int (P := P) (k0 := .i64) (n := (n : Int)) hs hd
  rw [wrap_u8] at h
  have e : (UInt8.ofNat n).toNat = n % 256 := UInt8.toNat_ofNat'
  rw [← e] at h
  exact h
theorem cnv_i_u8 {s : TypeId} {ds : TypeDesc} {n : Int} (hs : P.underlying s = some ds) (hd : P.underlying t = some (.int .u8)) : Cnv P s t (I64 n) (V8 (UInt8.ofNat (n % 256).toNat)) := by
  have h := cnv_int (P := P) (k0 := .i64) (n := n) hs hd
  have e : IntKind.u8.wrap n = (((UInt8.ofNat (n % 256).toNat).toNat : Nat) : Int) := by
    have e1 : (UInt8.ofNat (n % 256).toNat).toNat = (n % 256).toNat % 256 := UInt8.toNat_ofNat'
    rw [e1]
    simp only [IntKind.wrap, IntKind.bits, IntKind.signed]
    simp
    omega
  rw [e] at h
  exact h
theorem cnv_u8_n {s : TypeId} {ds : TypeDesc} (a : UInt8) (hs : P.underlying s = some ds) (hd : P.underlying t = some (.int .i64)) : Cnv P s t (V8 a) (I64 (a.toNat : Nat)) := by
  have h := cnv_int (P := P) (k0 := .u8) (n := ((a.toNat : Nat) : Int)) hs hd
  have := lt_u8 a
  rwa [wrap_i64_in _ (by omega) (by omega)] at h
theorem cnv_u32_u8 {s : TypeId} {ds : TypeDesc} (a : UInt32) (hs : P.underlying s = some ds) (hd : P.underlying t = some (.int .u8)) : Cnv P s t (V32 a) (V8 a.toUInt8) := by
  have h := cnv_int (P := P) (k0 := .u32) (n := ((a.toNat : Nat) : Int)) hs hd
  rw [wrap_u8] at h
  have e : (a.toUInt8).toNat = a.toNat % 256 := UInt32.toNat_toUInt8 a
  rw [← e] at h
  exact h
theorem cnv_n_u32 {s : TypeId} {ds : TypeDesc} {n : Nat} (hs : P.underlying s = some ds) (hd : P.underlying t = some (.int .u32)) : Cnv P s t (I64 n) (V32 (UInt32.ofNat n)) := by
  have h := cnv_int (P := P) (k0 := .i64) (n := (n : Int)) hs hd
  rw [wrap_u32] at h
  have e : (UInt32.ofNat n).toNat = n % 4294967296 := UInt32.toNat_ofNat'
  rw [← e] at h
  exact h
theorem cnv_i_u32 {s : TypeId} {ds : TypeDesc} {n : Int} (hs : P.underlying s = some ds) (hd : P.underlying t = some (.int .u32)) : Cnv P s t (I64 n) (V32 (UInt32.ofNat (n % 4294967296).toNat)) := by
  have h := cnv_int (P := P) (k0 := .i64) (n := n) hs hd
  have e : IntKind.u32.wrap n = (((UInt32.ofNat (n % 4294967296).toNat).toNat : Nat) : Int) := by
    have e1 : (UInt32.ofNat (n % 4294967296).toNat).toNat = (n % 4294967296).toNat % 4294967296 := UInt32.toNat_ofNat'
    rw [e1]
    simp only [IntKind.wrap, IntKind.bits, IntKind.signed]
    simp
    omega
  rw [e] at h
  exact h
theorem cnv_u64_u8 {s : TypeId} {ds : TypeDesc} (a : UInt64) (hs : P.underlying s = some ds) (hd : P.underlying t = some (.int .u8)) : Cnv P s t (V64 a) (V8 a.toUInt8) := by
  have h := cnv_int (P := P) (k0 := .u64) (n := ((a.toNat : Nat) : Int)) hs hd
  rw [wrap_u8] at h
  have e : (a.toUInt8).toNat = a.toNat % 256 := UInt64.toNat_toUInt8 a
  rw [← e] at h
  exact h
theorem cnv_n_u64 {s : TypeId} {ds : TypeDesc} {n : Nat} (hs : P.underlying s = some ds) (hd : P.underlying t = some (.int .u64)) : Cnv P s t (I64 n) (V64 (UInt64.ofNat n)) := by
  have h := cnv_int (P := P) (k0 := .i64) (n := (n : Int)) hs hd
  rw [wrap_u64] at h
  have e : (UInt64.ofNat n).toNat = n % 18446744073709551616 := UInt64.toNat_ofNat'
  rw [← e] at h
  exact h
theorem cnv_i_u64 {s : TypeId} {ds : TypeDesc} {n : Int} (hs : P.underlying s = some ds) (hd : P.underlying t = some (.int .u64)) : Cnv P s t (I64 n) (V64 (UInt64.ofNat (n % 18446744073709551616).toNat)) := by
  have h := cnv_int (P := P) (k0 := .i64) (n := n) hs hd
  have e : IntKind.u64.wrap n = (((UInt64.ofNat (n % 18446744073709551616).toNat).toNat : Nat) : Int) := by
    have e1 : (UInt64.ofNat (n % 18446744073709551616).toNat).toNat = (n % 18446744073709551616).toNat % 18446744073709551616 := UInt64.toNat_ofNat'
    rw [e1]
    simp only [IntKind.wrap, IntKind.bits, IntKind.signed]
    simp
    omega
  rw [e] at h
  exact h
end
end Go.Proofs.YtmoaddicejohgaaDoor
set_option linter.unusedSimpArgs false
set_option linter.unusedVariables false
namespace Go.Proofs.YtmoaddicejohgaaDoor
open Go
@[irreducible] def Ret (P : Program) (f : FuncId) (args : Array Value) (w : World) (Post : Value → World → Prop) : Prop := Calls P f args w fun e w' => ∃ v, e = .returned v ∧ Post v w'
@[irreducible] def BP (P : Program) (fn : Func) (Post : Value → World → Prop) : Exit → Act → World → Prop := bodyPost P fn fun e w' => ∃ v, e = .returned v ∧ Post v w'
theorem Ret.calls {P : Program} {f : FuncId} {args : Array Value} {w : World} {Post : Value → World → Prop} (h : Ret P f args w Post) : Calls P f args w fun e w' => ∃ v, e = .returned v ∧ Post v w' := by unfold Ret at h; exact h
theorem Ret.mono {P : Program} {f : FuncId} {args : Array Value} {w : World} {Post Post' : Value → World → Prop} (h : Ret P f args w Post) (hp : ∀ v w', Post v w' → Post' v w') : Ret P f args w Post' := by
  unfold Ret at *
  exact h.mono fun e w' ⟨v, he, hv⟩ => ⟨v, he, hp v w' hv⟩
theorem Ret.enter {P : Program} {f : FuncId} {fn : Func} {c : Code} {args : Array Value} {w : World} {Post : Value → World → Prop} (hf : P.funcs[f]? = some fn) (hb : fn.body = some c)
    (h : c.wp P (BP P fn Post) ⟨args ++ Array.replicate (fn.ntmps - args.size) undef, []⟩ w) : Ret P f args w Post := by
  unfold Ret
  unfold BP at h
  exact calls_of_wp hf hb h
section
variable {P : Program} {fn : Func} {Post : Value → World → Prop} {tm : List Value} {w : World}
theorem BP.panic (c : List PanicEntry) (a : Act) (d : Option Tmp) (v : Value) (w : World) (h : BP P fn Post (.panic c) (a.put d v) w) : BP P fn Post (.panic c) a w := by
  unfold BP at *
  obtain ⟨_, v, hv, _⟩ := h; cases hv
theorem BP.of {a : Act} {v : Value} (hr : (results fn a.tmps).run P w = .ok v w) (hd : a.defers = []) (h : Post v w) : BP P fn Post .ret a w := by unfold BP; exact ⟨hd, v, hr, v, rfl, h⟩
theorem BP.normal {a : Act} (h : BP P fn Post .ret a w) : BP P fn Post .normal a w := by unfold BP at *; exact h
theorem BP.ret1 {t : Tmp} {v : Value} (hr : fn.results = #[.tmp t]) (hv : tm.getD t undef = v) (h : Post v w) : BP P fn Post .ret ⟨tm.toArray, []⟩ w :=
  .of (v := v) (by subst hv; simp [results, hr]) rfl h
theorem BP.ret0 {a : Act} (hr : fn.results = #[]) (hd : a.defers = []) (h : Post (.tuple #[]) w) : BP P fn Post .ret a w := .of (by simp [results, hr]) hd h
theorem BP.ret2 {t u : Tmp} {v v' : Value} (hr : fn.results = #[.tmp t, .tmp u]) (hv : tm.getD t undef = v) (hv' : tm.getD u undef = v') (h : Post (.tuple #[v, v']) w) : BP P fn Post .ret ⟨tm.toArray, []⟩ w :=
  .of (v := .tuple #[v, v']) (by subst hv; subst hv'; simp [results, hr]) rfl h
theorem BP.ret3 {t u s : Tmp} {v v' v'' : Value} (hr : fn.results = #[.tmp t, .tmp u, .tmp s]) (hv : tm.getD t undef = v) (hv' : tm.getD u undef = v') (hv'' : tm.getD s undef = v'') (h : Post (.tuple #[v, v', v'']) w) : BP P fn Post .ret ⟨tm.toArray, []⟩ w :=
  .of (v := .tuple #[v, v', v'']) (by subst hv; subst hv'; subst hv''; simp [results, hr]) rfl h
end
section
variable {P : Program} {a : Act} {d : Option Tmp} {ty : TypeId} {pos : String} {af : Array Edge} {g : Option (Nat × Bool)} {x y : Operand} {t T : TypeId} {w : World}
def isAggD : TypeDesc → Bool
  | .struct _ | .array _ _ => true
  | _ => false
theorem run_isAgg {D : TypeDesc} (hu : P.underlying t = some D) (w : World) : (isAgg t).run P w = .ok (isAggD D) w := by
  unfold isAgg
  rw [Sem.run_bind, run_underlying hu w]
  cases D <;> rfl
theorem lr_load1 {D : TypeDesc} {b o : Nat} {v : Value} (hx : a.eval x = PT b o) (hu : P.underlying t = some D) (hD : isAggD D = false) (hc : w.cell? ⟨b, o, none⟩ = some v) : LRun P ⟨d, .load t x, ty, pos, af, g⟩ a w v := by
  refine run_ok_value (w := w) ?_
  simp [hx, Instr.loadAt, Instr.sureAddr, loadVar, run_isAgg hu, hD, hc]
theorem run_loadN {D : TypeDesc} {b o n : Nat} {cs : Array Value} (hu : P.underlying t = some D) (hD : isAggD D = true) (hs : szc P t = some n) (hc : ∀ j, j < n → w.cell? ⟨b, o + j, none⟩ = cs[o + j]?) (hn : o + n ≤ cs.size) :
    (loadVar t ⟨b, o, none⟩).run P w = .ok (.agg (cs.extract o (o + n))) w := by
  have h := run_loadCells_list (P := P) w ⟨b, o, none⟩ (cs.extract o (o + n)).toList (fun j v hj => by
    rw [addr_add]
    have hj' : (cs.extract o (o + n))[j]? = some v := by rw [← Array.getElem?_toList]; exact hj
    rw [Array.getElem?_extract] at hj'
    split at hj'
    · rename_i hlt
      rw [hc j (by omega)]; exact hj'
    · cases hj')
  have hl : (cs.extract o (o + n)).toList.length = n := by simp; omega
  rw [hl] at h
  simp only [loadVar, Sem.run_bind, run_isAgg hu, hD, Result.andThen_ok, if_true, run_sizeOf hs, h, Array.toArray_toList]
  rfl
theorem lr_loadN {D : TypeDesc} {b o n : Nat} {cs : Array Value} (hx : a.eval x = PT b o) (hb : Blk w b T cs) (hu : P.underlying t = some D) (hD : isAggD D = true) (hs : szc P t = some n) (hn : o + n ≤ cs.size) :
    LRun P ⟨d, .load t x, ty, pos, af, g⟩ a w (.agg (cs.extract o (o + n))) := by
  refine run_ok_value (w := w) ?_
  simp only [hx, Instr.loadAt, Instr.sureAddr, Sem.run_bind, Sem.run_pure, Result.andThen_ok]
  exact run_loadN hu hD hs (fun j hj => by
    have hlt : o + j < cs.size := by omega
    rw [hb.cell (Array.getElem?_eq_getElem hlt), Array.getElem?_eq_getElem hlt]) hn
theorem lr_loadW {D : TypeDesc} {b n : Nat} {cs : Array Value} (hx : a.eval x = PT b 0) (hb : Blk w b T cs) (hu : P.underlying t = some D) (hD : isAggD D = true) (hs : szc P t = some n) (hn : cs.size = n) :
    LRun P ⟨d, .load t x, ty, pos, af, g⟩ a w (.agg cs) := by
  have := lr_loadN (d := d) (ty := ty) (pos := pos) (af := af) (g := g) hx hb hu hD hs (by omega)
  rwa [show cs.extract 0 (0 + n) = cs by rw [Nat.zero_add, ← hn]; simp] at this
end
def splice (cs : Array Value) (o : Nat) (vs : Array Value) : Array Value := (cs.toList.take o ++ vs.toList ++ cs.toList.drop (o + vs.size)).toArray
theorem splice_size {cs vs : Array Value} {o : Nat} (h : o + vs.size ≤ cs.size) : (splice cs o vs).size = cs.size := by simp [splice]; omega
theorem splice_all {cs vs : Array Value} (h : vs.size = cs.size) : splice cs 0 vs = vs := by
  unfold splice
  simp only [List.take_zero, List.nil_append, Nat.zero_add]
  rw [List.drop_eq_nil_of_le (by simp; omega)]; simp
theorem splice_get {cs vs : Array Value} {o i : Nat} (h : o + vs.size ≤ cs.size) : (splice cs o vs)[i]? = if o ≤ i ∧ i < o + vs.size then vs[i - o]? else cs[i]? := by
  unfold splice
  simp only [List.append_assoc, List.getElem?_toArray]
  rw [List.getElem?_append]
  simp only [List.length_take, Array.length_toList, Nat.min_eq_left (show o ≤ cs.size by omega)]
  by_cases h1 : i < o
  · rw [if_pos h1, if_neg (by omega), List.getElem?_take, if_pos h1]; simp
  · rw [if_neg h1, List.getElem?_append]
    simp only [Array.length_toList]
    by_cases h2 : i < o + vs.size
    · rw [if_pos (by omega), if_pos ⟨by omega, h2⟩]; simp
    · rw [if_neg (by omega), if_neg (by omega), List.getElem?_drop]
      simp only [Array.getElem?_toList]
      congr 1; omega
theorem run_storeCells_blk {P : Program} {b : Nat} {t : TypeId} : ∀ (vs : List Value) (i o : Nat) (w : World) (cs : Array Value), Blk w b t cs → o + i + vs.length ≤ cs.size → (∀ v ∈ vs, v.oneCell' = true) →
    ∃ w', (storeCells ⟨b, o, none⟩ vs i).run P w = .ok () w' ∧ Blk w' b t (splice cs (o + i) vs.toArray) ∧ (∀ k, k ≠ b → w'.heap[k]? = w.heap[k]?) ∧ w'.heap.size = w.heap.size ∧ w'.os = w.os ∧ w'.tape = w.tape ∧ w'.output = w.output
  | [], i, o, w, cs, hb, hl, _ => by
    refine ⟨w, rfl, ?_, fun _ _ => rfl, rfl, rfl, rfl, rfl⟩
    have : splice cs (o + i) [].toArray = cs := by unfold splice; simp
    rw [this]; exact hb
  | v :: rest, i, o, w, cs, hb, hl, h1 => by
    simp only [List.length_cons] at hl
    have hlt : o + i < cs.size := by omega
    have hst : (store ((⟨b, o, none⟩ : Addr).add i) v).run P w = .ok () (w.setCell ⟨b, o + i, none⟩ v) := by
      rw [addr_add, run_store P w _ v _ (h1 v (by simp)), hb.cell (Array.getElem?_eq_getElem hlt)]
      simp [hb.free hlt]
    obtain ⟨w', hr, hB, ho, hsz, e1, e2, e3⟩ := run_storeCells_blk (P := P) rest (i + 1) o (w.setCell ⟨b, o + i, none⟩ v) _ (hb.set (o + i) v) (by simp; omega) (fun x hx => h1 x (by simp [hx]))
    refine ⟨w', ?_, ?_, fun k hk => (ho k hk).trans (heap_set_other _ _ _ hk), hsz.trans (heap_set_size _ _ _), e1, e2, e3⟩
    · simp only [storeCells, Sem.run_bind, hst, Result.andThen_ok, hr]
    · have : splice (cs.setIfInBounds (o + i) v) (o + (i + 1)) rest.toArray = splice cs (o + i) (v :: rest).toArray := by
        apply Array.ext_getElem?
        intro j
        rw [splice_get (by simp; omega), splice_get (by simp; omega), Array.getElem?_setIfInBounds]
        simp only [List.size_toArray, List.length_cons]
        by_cases hj : o + i = j
        · subst hj; simp [hlt]; omega
        · by_cases hj2 : o + i ≤ j ∧ j < o + i + (rest.length + 1)
          · rw [if_pos (by omega), if_pos hj2]
            have : j - (o + i) = (j - (o + (i + 1))) + 1 := by omega
            rw [this]; simp
          · rw [if_neg (by omega), if_neg hj2, if_neg hj]
      rw [← this]; exact hB
section
variable {P : Program} {ops : List Oper} {Q : Exit → Act → World → Prop} {r : List PStep} {a : Act} {w : World} {i : Nat} {d : Option Tmp} {ty : TypeId} {pos : String} {af : Array Edge} {g : Option (Nat × Bool)} {x y : Operand} {t T : TypeId}
  {S : List Nat} {w0 : World} {L : List Own} {o : Oper} {v : Value}
def QRun (P : Program) (o : Oper) (a : Act) (w : World) (v : Value) : Prop := ∀ w', Chg [] w w' → o.quietAt P a (Chg [] w') w' v
theorem QRun.of_l (h : ∀ w', Chg [] w w' → LRun P o a w' v) : QRun P o a w v := fun w' hw => by
  unfold Oper.quietAt; rw [h w' hw]; exact ⟨rfl, rfl⟩
theorem PRun.q (h : PRun P o a v) (w : World) : QRun P o a w v := .of_l fun w' _ => h w'
theorem at_list {ops : List Oper} (h : ops[i]? = some o) : ops.toArray[i]? = some o := by simpa using h
theorem plan_nil (hH : Hp S w0 w L) (h : ∀ w', Hp S w0 w' L → Q .normal a w') : wpPlan P ops.toArray Q [] a w := fun w1 hw => h w1 (hH.call hw)
theorem plan_p (ho : ops[i]? = some o) (hg : Region.wanted o (yielded ops.toArray a.tmps) = true) (hrun : PRun P o a v) (h : wpPlan P ops.toArray Q r (a.put o.dst v) w) : wpPlan P ops.toArray Q (.p i :: r) a w :=
  ⟨o, at_list ho, v, .inl ⟨hg, fun w' _ => by unfold Oper.quietAt; rw [hrun w']; exact ⟨rfl, rfl⟩⟩, h⟩
theorem plan_q (ho : ops[i]? = some o) (hg : Region.wanted o (yielded ops.toArray a.tmps) = true) (hrun : QRun P o a w v) (h : wpPlan P ops.toArray Q r (a.put o.dst v) w) : wpPlan P ops.toArray Q (.q i :: r) a w :=
  ⟨o, at_list ho, v, .inl ⟨hg, hrun⟩, h⟩
theorem plan_ps (ho : ops[i]? = some o) (hg : Region.wanted o (yielded ops.toArray a.tmps) = false) (h : wpPlan P ops.toArray Q r (a.put o.dst undef) w) : wpPlan P ops.toArray Q (.p i :: r) a w :=
  ⟨o, at_list ho, undef, .inr ⟨hg, rfl⟩, h⟩
theorem plan_qs (ho : ops[i]? = some o) (hg : Region.wanted o (yielded ops.toArray a.tmps) = false) (h : wpPlan P ops.toArray Q r (a.put o.dst undef) w) : wpPlan P ops.toArray Q (.q i :: r) a w :=
  ⟨o, at_list ho, undef, .inr ⟨hg, rfl⟩, h⟩
theorem wpPlan.grow : ∀ (pl : List PStep) (a : Act) (w w1 : World), FarR pl → wpPlan P ops.toArray Q pl a w → Chg [] w w1 → wpPlan P ops.toArray Q pl a w1
  | [], _, _, _, _, h, hc => fun w2 h2 => h w2 (hc.trans h2)
  | .p i :: r, a, w, w1, hF, ⟨o, ho, v, hy, hn⟩, hc => ⟨o, ho, v, hy.grow .any (Far.any.of _ _ hc), wpPlan.grow r _ w w1 hF hn hc⟩
  | .q i :: r, a, w, w1, hF, ⟨o, ho, v, hy, hn⟩, hc => ⟨o, ho, v, hy.grow .grown hc, wpPlan.grow r _ w w1 hF hn hc⟩
  | .r i R :: r, a, w, w1, hF, ⟨o, ho, v, hy, hn⟩, hc => ⟨o, ho, v, hy.grow hF.1 (hF.1.of _ _ hc), wpPlan.grow r _ w w1 hF.2 hn hc⟩
  | .x i :: r, _, _, _, _, h, hc => fun w2 h2 => h w2 (hc.trans h2)
  | .s i R :: r, _, _, _, _, h, hc => fun w2 h2 => h w2 (hc.trans h2)
  | .e i :: r, _, _, _, _, h, hc => fun w2 h2 => h w2 (hc.trans h2)
theorem plan_ev (hH : Hp S w0 w L) (ho : ops[i]? = some o) (hg : Region.wanted o (yielded ops.toArray a.tmps) = true) (h : ∀ w1, Hp S w0 w1 L → ∃ v w', (execOp a.eval o).run P w1 = .ok (.value v) w' ∧ wpPlan P ops.toArray Q r (a.put o.dst v) w') : wpPlan P ops.toArray Q (.e i :: r) a w := fun w1 hw => by
  obtain ⟨v, w', hr, hn⟩ := h w1 (hH.call hw)
  unfold wpOp
  simp only [at_list ho, hg, if_true]
  exact .inl (by unfold Oper.wp; rw [hr]; exact hn)
theorem plan_ek (hH : Hp S w0 w L) (ho : ops[i]? = some o) (hg : Region.wanted o (yielded ops.toArray a.tmps) = true) (h : ∀ w1, Hp S w0 w1 L → ∃ w', (execOp a.eval o).run P w1 = .ok .skip w' ∧ wpPlan P ops.toArray Q r (a.put o.dst undef) w') : wpPlan P ops.toArray Q (.e i :: r) a w := fun w1 hw => by
  obtain ⟨w', hr, hn⟩ := h w1 (hH.call hw)
  unfold wpOp
  simp only [at_list ho, hg, if_true]
  exact .inl (by unfold Oper.wp; rw [hr]; exact hn)
theorem plan_xv (hH : Hp S w0 w L) (ho : ops[i]? = some o) (hg : Region.wanted o (yielded ops.toArray a.tmps) = true) (h : ∀ w1, Hp S w0 w1 L → ∃ v w', (execOp a.eval o).run P w1 = .ok (.value v) w' ∧ Chg [] w1 w' ∧ wpPlan P ops.toArray Q r (a.put o.dst v) w') : wpPlan P ops.toArray Q (.x i :: r) a w := fun w1 hw => by
  obtain ⟨v, w', hr, hn⟩ := h w1 (hH.call hw)
  unfold wpOp
  simp only [at_list ho, hg, if_true]
  exact .inl (by unfold Oper.wp; rw [hr]; exact hn)
def RRun (P : Program) (o : Oper) (a : Act) (R : World → World → Prop) (w : World) (v : Value) : Prop := ∀ w', R w w' → o.quietAt P a (Chg [] w') w' v
theorem RRun.of_l {R : World → World → Prop} (h : ∀ w', R w w' → LRun P o a w' v) : RRun P o a R w v := fun w' hw => by
  unfold Oper.quietAt; rw [h w' hw]; exact ⟨rfl, rfl⟩
theorem plan_r {R : World → World → Prop} (ho : ops[i]? = some o) (hg : Region.wanted o (yielded ops.toArray a.tmps) = true) (hrun : RRun P o a R w v) (h : wpPlan P ops.toArray Q r (a.put o.dst v) w) : wpPlan P ops.toArray Q (.r i R :: r) a w :=
  ⟨o, at_list ho, v, .inl ⟨hg, hrun⟩, h⟩
theorem rr_load1 {R : World → World → Prop} {D : TypeDesc} {b o : Nat} {cs : Array Value} (hR : ∀ w', R w w' → Blk w' b T cs) (hx : a.eval x = PT b o) (hu : P.underlying t = some D) (hD : isAggD D = false) (hc : cs[o]? = some v) : RRun P ⟨d, .load t x, ty, pos, af, g⟩ a R w v :=
  .of_l fun w' hw => lr_load1 hx hu hD ((hR w' hw).cell hc)
theorem qr_load1 {D : TypeDesc} {b o : Nat} (hx : a.eval x = PT b o) (hu : P.underlying t = some D) (hD : isAggD D = false) (hc : w.cell? ⟨b, o, none⟩ = some v) : QRun P ⟨d, .load t x, ty, pos, af, g⟩ a w v :=
  .of_l fun _ hw => lr_load1 hx hu hD (hw.nil_cell hc)
theorem qr_loadN {D : TypeDesc} {b o n : Nat} {cs : Array Value} (hx : a.eval x = PT b o) (hb : Blk w b T cs) (hu : P.underlying t = some D) (hD : isAggD D = true) (hs : szc P t = some n) (hn : o + n ≤ cs.size) :
    QRun P ⟨d, .load t x, ty, pos, af, g⟩ a w (.agg (cs.extract o (o + n))) := .of_l fun _ hw => lr_loadN hx (hw.nil_blk hb) hu hD hs hn
theorem qr_loadW {D : TypeDesc} {b n : Nat} {cs : Array Value} (hx : a.eval x = PT b 0) (hb : Blk w b T cs) (hu : P.underlying t = some D) (hD : isAggD D = true) (hs : szc P t = some n) (hn : cs.size = n) :
    QRun P ⟨d, .load t x, ty, pos, af, g⟩ a w (.agg cs) := .of_l fun _ hw => lr_loadW hx (hw.nil_blk hb) hu hD hs hn
theorem plan_store1 (n : Nat) {b o : Nat} {cs : Array Value} {v : Value} (ho : ops[i]? = some ⟨none, .store t x y, ty, pos, af, g⟩) (hg : Region.wanted ⟨none, .store t x y, ty, pos, af, g⟩ (yielded ops.toArray a.tmps) = true)
    (hH : Hp S w0 w L) (hx : a.eval x = PT b o) (hi : L[n]? = some (some b, T, cs)) (hy : a.eval y = v) (h1 : v.oneCell' = true) (hs : szc P t = some 1) (hlt : o < cs.size)
    (h : ∀ w', Hp S w0 w' (L.set n (some b, T, cs.setIfInBounds o v)) → wpPlan P ops.toArray Q r a w') : wpPlan P ops.toArray Q (.e i :: r) a w := by
  refine plan_ek hH ho hg fun w hH => ?_
  have hb := hH.blk n hi
  have hc : v.cells = #[v] := by cases v <;> simp_all [Value.cells, Value.oneCell']
  refine ⟨w.setCell ⟨b, o, none⟩ v, ?_, h _ (hH.store n hi o v)⟩
  have hst : (store (⟨b, o, none⟩ : Addr) v).run P w = .ok () (w.setCell ⟨b, o, none⟩ v) := by
    rw [run_store P w _ v _ h1, hb.cell (Array.getElem?_eq_getElem hlt)]
    simp [hb.free hlt]
  simp [execOp, hx, hy, Instr.storeAt, Instr.sureAddr, storeVar, run_sizeOf hs, hc, storeCells, addr_add, hst]
theorem plan_storeN (n : Nat) {b o m : Nat} {cs vs : Array Value} (ho : ops[i]? = some ⟨none, .store t x y, ty, pos, af, g⟩) (hg : Region.wanted ⟨none, .store t x y, ty, pos, af, g⟩ (yielded ops.toArray a.tmps) = true)
    (hH : Hp S w0 w L) (hx : a.eval x = PT b o) (hi : L[n]? = some (some b, T, cs)) (hy : a.eval y = .agg vs) (h1 : ∀ v ∈ vs.toList, v.oneCell' = true) (hs : szc P t = some m) (hm : vs.size = m) (hlt : o + m ≤ cs.size)
    (h : ∀ w', Hp S w0 w' (L.set n (some b, T, splice cs o vs)) → wpPlan P ops.toArray Q r a w') : wpPlan P ops.toArray Q (.e i :: r) a w := by
  refine plan_ek hH ho hg fun w hH => ?_
  have hb := hH.blk n hi
  obtain ⟨w', hr, hB, hoth, hsz, e1, e2, e3⟩ := run_storeCells_blk (P := P) vs.toList 0 o w cs hb (by simp; omega) h1
  refine ⟨w', ?_, h _ (hH.put n hi ?_ (by simpa using hB) fun k hk _ => hoth k hk)⟩
  · simp [execOp, hx, hy, Instr.storeAt, Instr.sureAddr, storeVar, run_sizeOf hs, Value.cells, hm, hr]
  · refine hH.chg.trans' (T := [b]) ⟨e1, e2, e3, by omega, fun k hk hn => hoth k (by simpa using hn)⟩ ?_
    intro z hz hlt
    simp only [List.mem_singleton] at hz
    subst hz
    rcases hH.mine n hi with h1 | h1
    · omega
    · exact h1
theorem plan_storeW (n : Nat) {b m : Nat} {cs vs : Array Value} (ho : ops[i]? = some ⟨none, .store t x y, ty, pos, af, g⟩) (hg : Region.wanted ⟨none, .store t x y, ty, pos, af, g⟩ (yielded ops.toArray a.tmps) = true)
    (hH : Hp S w0 w L) (hx : a.eval x = PT b 0) (hi : L[n]? = some (some b, T, cs)) (hy : a.eval y = .agg vs) (h1 : ∀ v ∈ vs.toList, v.oneCell' = true) (hs : szc P t = some m) (hm : vs.size = m) (hlt : cs.size = m)
    (h : ∀ w', Hp S w0 w' (L.set n (some b, T, vs)) → wpPlan P ops.toArray Q r a w') : wpPlan P ops.toArray Q (.e i :: r) a w :=
  plan_storeN n ho hg hH hx hi hy h1 hs hm (by omega) fun w' h' => h w' (by rwa [splice_all (by omega)] at h')
def zeroC (P : Program) (t : TypeId) : Option (Array Value) := ((P.info? t).bind (·.zero)).map Value.cells
theorem plan_alloc {dst : Tmp} {cs : Array Value} (ho : ops[i]? = some ⟨some dst, .alloc t, ty, pos, af, g⟩) (hg : Region.wanted ⟨some dst, .alloc t, ty, pos, af, g⟩ (yielded ops.toArray a.tmps) = true)
    (hH : Hp S w0 w L) (hz : zeroC P t = some cs) (h : ∀ b w', Hp S w0 w' (L ++ [(some b, t, cs)]) → wpPlan P ops.toArray Q r (a.put (some dst) (PT b 0)) w') : wpPlan P ops.toArray Q (.x i :: r) a w := by
  refine plan_xv hH ho hg fun w hH => ⟨PT w.heap.size 0, w.alloc (.cells cs t), ?_, (Chg.refl _ _).alloc _, h _ _ (hH.alloc t cs)⟩
  unfold zeroC at hz
  obtain ⟨z, hz1, rfl⟩ := Option.map_eq_some_iff.1 hz
  obtain ⟨inf, hi, hz2⟩ := Option.bind_eq_some_iff.1 hz1
  simp [execOp, Instr.alloc, zeroValue, typeInfo, hi, hz2, newVar, newRow]
theorem plan_box {dst : Tmp} {v : Value} (ho : ops[i]? = some ⟨some dst, .box t x, ty, pos, af, g⟩) (hg : Region.wanted ⟨some dst, .box t x, ty, pos, af, g⟩ (yielded ops.toArray a.tmps) = true)
    (hH : Hp S w0 w L) (hx : a.eval x = v) (h : ∀ b w', Hp S w0 w' (L ++ [(some b, t, v.cells)]) → wpPlan P ops.toArray Q r (a.put (some dst) (PT b 0)) w') : wpPlan P ops.toArray Q (.x i :: r) a w := by
  refine plan_xv hH ho hg fun w hH => ⟨PT w.heap.size 0, w.alloc (.cells v.cells t), ?_, (Chg.refl _ _).alloc _, h _ _ (hH.alloc t v.cells)⟩
  simp [execOp, hx, Instr.box, newVar, newRow]
def Callable (P : Program) (f : FuncId) : Prop := ∃ fn, P.funcs[f]? = some fn ∧ (fn.name == "runtime.NumGoroutine") = false ∧ fn.body.isNone = false
theorem run_call {f : FuncId} {args : List Operand} {ats : Array TypeId} {vs : List Value} (hc : Callable P f) (hargs : args.map a.eval = vs) (w : World) : (execOp a.eval ⟨d, .call ⟨.value (.func f), args.toArray, ats⟩, ty, pos, af, g⟩).run P w = .ok (.enter f vs.toArray) w := by
  obtain ⟨fn, hf, hn, hb⟩ := hc
  have h1 : (callFunc f vs.toArray).run P w = .ok (.enter f vs.toArray) w := by
    unfold callFunc
    rw [Sem.run_bind]
    simp only [run_program, Result.andThen_ok, hf, hn, hb, Bool.false_eq_true, if_false]
    rfl
  simp only [execOp, resolve, List.map_toArray, hargs, Act.eval, Deferred.ofValue, invoke, Sem.run_bind, Sem.run_pure, Result.andThen_ok, Array.empty_append, Array.append_empty, h1]
theorem qr_call {f : FuncId} {args : List Operand} {ats : Array TypeId} {vs : List Value} (hc : Callable P f) (hr : ∀ w', Chg [] w w' → Ret P f vs.toArray w' fun v' w'' => v' = v ∧ Chg [] w' w'') (hargs : args.map a.eval = vs) :
    QRun P ⟨d, .call ⟨.value (.func f), args.toArray, ats⟩, ty, pos, af, g⟩ a w v := fun w' hw => by
  unfold Oper.quietAt
  rw [run_call hc hargs w']
  exact ⟨rfl, (hr w' hw).calls.mono fun e w'' ⟨v', he, hv, hx⟩ => ⟨by rw [he, hv], hx⟩⟩
theorem plan_callx {f : FuncId} {args : List Operand} {ats : Array TypeId} {vs : List Value} {Post : World → Value → World → Prop} (ho : ops[i]? = some ⟨d, .call ⟨.value (.func f), args.toArray, ats⟩, ty, pos, af, g⟩)
    (hg : Region.wanted ⟨d, .call ⟨.value (.func f), args.toArray, ats⟩, ty, pos, af, g⟩ (yielded ops.toArray a.tmps) = true) (hH : Hp S w0 w L) (hc : Callable P f) (hr : ∀ w1, Hp S w0 w1 L → Ret P f vs.toArray w1 (Post w1)) (hargs : args.map a.eval = vs)
    (hx : ∀ w1 v w', Post w1 v w' → Chg [] w1 w') (h : ∀ w1 v w', Hp S w0 w1 L → Post w1 v w' → wpPlan P ops.toArray Q r (a.put d v) w') : wpPlan P ops.toArray Q (.x i :: r) a w := fun w1 hw => by
  unfold wpOp
  simp only [at_list ho, hg, if_true]
  refine .inl ?_
  unfold Oper.wp
  rw [run_call hc hargs w1, Oper.upon_enter]
  exact (hr w1 (hH.call hw)).calls.mono fun e w' ⟨v, he, hv⟩ => by subst he; exact ⟨hx _ _ _ hv, h w1 v w' (hH.call hw) hv⟩
theorem plan_calle {f : FuncId} {args : List Operand} {ats : Array TypeId} {vs : List Value} {Post : World → Value → World → Prop} (ho : ops[i]? = some ⟨d, .call ⟨.value (.func f), args.toArray, ats⟩, ty, pos, af, g⟩)
    (hg : Region.wanted ⟨d, .call ⟨.value (.func f), args.toArray, ats⟩, ty, pos, af, g⟩ (yielded ops.toArray a.tmps) = true) (hH : Hp S w0 w L) (hc : Callable P f) (hr : ∀ w1, Hp S w0 w1 L → Ret P f vs.toArray w1 (Post w1)) (hargs : args.map a.eval = vs)
    (h : ∀ w1 v w', Hp S w0 w1 L → Post w1 v w' → wpPlan P ops.toArray Q r (a.put d v) w') : wpPlan P ops.toArray Q (.e i :: r) a w := fun w1 hw => by
  unfold wpOp
  simp only [at_list ho, hg, if_true]
  refine .inl ?_
  unfold Oper.wp
  rw [run_call hc hargs w1, Oper.upon_enter]
  exact (hr w1 (hH.call hw)).calls.mono fun e w' ⟨v, he, hv⟩ => by subst he; exact h w1 v w' (hH.call hw) hv
end
theorem wp_loop_g {P : Program} {Q : Exit → Act → World → Prop} {c : Code} (I : Nat → Act → World → Prop) (round : ∀ n a w, I n a w → c.wp P (Exit.then (fun a' w' => ∃ m, m < n ∧ I m a' w') Q) a w) :
    ∀ (n : Nat) (a : Act) (w : World), I n a w → (Code.loop c).wp P Q a w := by
  intro n a w h₀ b k cs
  have key : ∀ n a w, I n a w → ∃ e a' w', Q e a' w' ∧ Arrives P (lone (b.at a (.code c :: .inLoop c :: k)) cs w) b k cs e a' w' := by
    intro n
    induction n using Nat.strongRecOn with
    | _ n ih =>
      intro a w hI
      obtain ⟨e, a₁, w₁, hq, harr⟩ := round n a w hI b (.inLoop c :: k) cs
      cases e with
      | normal =>
        obtain ⟨m, hlt, hI₁⟩ := hq
        obtain ⟨e₂, a₂, w₂, hq₂, harr₂⟩ := ih m hlt a₁ w₁ hI₁
        exact ⟨e₂, a₂, w₂, hq₂, .of_steps (Steps.trans harr (.one step_inLoop)) harr₂⟩
      | exit id => exact ⟨_, a₁, w₁, hq, .pass (x := .inLoop c) rfl (fun _ _ => .inl (by simp)) harr⟩
      | goto l => exact ⟨_, a₁, w₁, hq, .pass (x := .inLoop c) rfl (fun _ _ => .inl (by simp)) harr⟩
      | ret => exact ⟨_, a₁, w₁, hq, .pass (x := .inLoop c) rfl (fun _ _ => .inl (by simp)) harr⟩
      | panic ch => exact ⟨_, a₁, w₁, hq, .pass (x := .inLoop c) rfl (fun _ _ => .inl (by simp)) harr⟩
      | outgrown => exact ⟨_, a₁, w₁, hq, .pass (x := .inLoop c) rfl (fun _ _ => .inl (by simp)) harr⟩
  obtain ⟨e, a', w', hq, harr⟩ := key n a w h₀
  exact ⟨e, a', w', hq, .of_steps (.one step_loop) harr⟩
def putAll (tm : List Value) : List Nat → List Value → List Value
  | s :: ss, v :: vs => putAll (tm.set s v) ss vs
  | _, _ => tm
def getAll (tm : List Value) (slots : List Nat) : List Value := slots.map fun s => tm.getD s undef
def putD (tm d : List Value) : List Nat → Nat → List Value
  | s :: ss, k => putD (tm.set s (d.getD k undef)) d ss (k + 1)
  | [], _ => tm
theorem wp_loopT {P : Program} {Q : Exit → Act → World → Prop} {c : Code} {tm : List Value} (live dead : List Nat) (R : Nat → List Value → World → Prop) (n : Nat) {w : World} (hst : putD (putAll tm live (getAll tm live)) (getAll tm dead) dead 0 = tm)
    (h0 : R n (getAll tm live) w)
    (round : ∀ n vs w, R n vs w → ∀ d, c.wp P (Exit.then (fun a' w' => ∃ m, m < n ∧ ∃ tm', a' = ⟨tm'.toArray, []⟩ ∧ putD (putAll tm live (getAll tm' live)) (getAll tm' dead) dead 0 = tm' ∧ R m (getAll tm' live) w') Q) ⟨(putD (putAll tm live vs) d dead 0).toArray, []⟩ w) : (Code.loop c).wp P Q ⟨tm.toArray, []⟩ w := by
  refine wp_loop_g (fun n a w => ∃ tm', a = ⟨tm'.toArray, []⟩ ∧ putD (putAll tm live (getAll tm' live)) (getAll tm' dead) dead 0 = tm' ∧ R n (getAll tm' live) w) (fun n a w hI => ?_) n _ _ ⟨tm, rfl, hst, h0⟩
  obtain ⟨tm', rfl, h1, hR⟩ := hI
  have := round n (getAll tm' live) w hR (getAll tm' dead)
  rw [h1] at this
  exact this
section
variable {P : Program} {a : Act} {w : World} {d : Option Tmp} {ty : TypeId} {pos : String} {af : Array Edge} {g : Option (Nat × Bool)} {x y : Operand} {t T : TypeId}
theorem qr_load8 {D : TypeDesc} {b o n m : Nat} {f : Nat → UInt8} (hx : a.eval x = PT b o) (hb : Blk w b T (arr8 m f)) (hu : P.underlying t = some D) (hD : isAggD D = true) (hs : szc P t = some n) (hn : o + n ≤ m) :
    QRun P ⟨d, .load t x, ty, pos, af, g⟩ a w (.agg (arr8 n fun j => f (o + j))) := by
  have := qr_loadN (d := d) (ty := ty) (pos := pos) (af := af) (g := g) hx hb hu hD hs (by simpa using hn)
  rwa [arr8_extract hn] at this
theorem pr_slice_arr_lh1 {k k' : IntKind} {e : TypeId} {n s b o l h : Nat} {xl xh : Operand} (hx : a.eval x = PT b o) (hl : a.eval xl = .int k (l : Int)) (hh : a.eval xh = .int k' (h : Int))
    (hu : P.underlying t = some (.array n e)) (hs : szc P e = some s) (h1 : l ≤ h) (h2 : h ≤ n) (h3 : l < n) : PRun P ⟨d, .slice t x (some xl) (some xh) none, ty, pos, af, g⟩ a (.slice (some ⟨b, o + l * s, none⟩) (h - l) (n - l)) := by
  have := pr_slice_arr_lh (d := d) (ty := ty) (pos := pos) (af := af) (g := g) hx hl hh hu hs h1 h2
  rw [show cutA (some ⟨b, o, none⟩) l n s = some ⟨b, o + l * s, none⟩ by unfold cutA; rw [if_neg (by omega)]; simp [addr_add]] at this
  exact this
theorem pr_slice_arr_l1 {k : IntKind} {e : TypeId} {n s b o l : Nat} {xl : Operand} (hx : a.eval x = PT b o) (hl : a.eval xl = .int k (l : Int))
    (hu : P.underlying t = some (.array n e)) (hs : szc P e = some s) (h3 : l < n) : PRun P ⟨d, .slice t x (some xl) none none, ty, pos, af, g⟩ a (.slice (some ⟨b, o + l * s, none⟩) (n - l) (n - l)) := by
  have := pr_slice_arr_l (d := d) (ty := ty) (pos := pos) (af := af) (g := g) hx hl hu hs (by omega)
  rw [show cutA (some ⟨b, o, none⟩) l n s = some ⟨b, o + l * s, none⟩ by unfold cutA; rw [if_neg (by omega)]; simp [addr_add]] at this
  exact this
end
theorem BP.retc {P : Program} {fn : Func} {Post : Value → World → Prop} {tm : List Value} {w : World} {p : Tmp} {t T : TypeId} {D : TypeDesc} {b n : Nat} {cs : Array Value} (hr : fn.results = #[.cell p t]) (hp : tm.getD p undef = PT b 0) (hb : Blk w b T cs)
    (hu : P.underlying t = some D) (hD : isAggD D = true) (hs : szc P t = some n) (hn : cs.size = n) (h : Post (.agg cs) w) : BP P fn Post .ret ⟨tm.toArray, []⟩ w := by
  refine .of (v := .agg cs) ?_ rfl h
  have hl := run_loadN (P := P) (w := w) (b := b) (o := 0) (cs := cs) hu hD hs (fun j hj => by
    have hlt : 0 + j < cs.size := by omega
    rw [hb.cell (Array.getElem?_eq_getElem hlt), Array.getElem?_eq_getElem hlt]) (by omega)
  rw [show cs.extract 0 (0 + n) = cs by rw [Nat.zero_add, ← hn]; simp] at hl
  have hp' : tm[p]?.getD undef = PT b 0 := by rw [← hp, List.getD_eq_getElem?_getD]
  simp [results, hr, hp', asAddr, hl]
theorem Hp.cast {S : List Nat} {w0 w : World} {L L' : List Own} (h : Hp S w0 w L) (e : L = L') : Hp S w0 w L' := e ▸ h
theorem Hp.take {S : List Nat} {w0 w : World} {L : List Own} (h : Hp S w0 w L) (n : Nat) : Hp S w0 w (L.take n) where
  chg := h.chg
  own e he := h.own e (List.mem_of_mem_take he)
  apart i j b hi hj := by
    have key : ∀ m : Nat, ((L.take n)[m]?).bind Own.at = some b → (L[m]?).bind Own.at = some b := by
      intro m hm
      rw [List.getElem?_take] at hm
      split at hm
      · exact hm
      · simp at hm
    exact h.apart i j b (key i hi) (key j hj)
theorem Hp.say {S : List Nat} {w0 w : World} {L : List Own} (h : Hp S w0 w L) (i : Nat) {b : Option Nat} {t : TypeId} {cs cs' : Array Value} (hi : L[i]? = some (b, t, cs)) (e : cs = cs') : Hp S w0 w (L.set i (b, t, cs')) := by
  subst e
  have : L.set i (b, t, cs) = L := by
    apply List.ext_getElem?
    intro j
    rw [List.getElem?_set]
    split
    · rename_i hij; subst hij
      split
      · exact hi.symm
      · rename_i hl; rw [List.getElem?_eq_none (by omega)] at hi; cases hi
    · rfl
  rw [this]; exact h
theorem eval_tmp (l : List Value) (ds : List Deferred) (t : Tmp) : (Act.mk l.toArray ds).eval (.tmp t) = l.getD t undef := by simp [Act.eval]
theorem put_some (l : List Value) (ds : List Deferred) (t : Tmp) (v : Value) : (Act.mk l.toArray ds).put (some t) v = Act.mk (l.set t v).toArray ds := by simp [Act.put]
theorem frame_enter (l : List Value) (n : Nat) : l.toArray ++ Array.replicate n undef = (l ++ List.replicate n undef).toArray := by simp
theorem pr_const_n {P : Program} {a : Act} {d : Option Tmp} {ty : TypeId} {pos : String} {af : Array Edge} {g : Option (Nat × Bool)} (n : Nat) {m : Int} (h : m = (n : Int)) : PRun P ⟨d, .move (.const (.int .i64 m)), ty, pos, af, g⟩ a (I64 (n : Nat)) := fun _ => by subst h; rfl
theorem pr_aconst_n {P : Program} {a : Act} {d : Option Tmp} {ty : TypeId} {pos : String} {af : Array Edge} {g : Option (Nat × Bool)} (n : Nat) {m : Int} (h : m = (n : Int)) : PRun P ⟨d, .assign (.const (.int .i64 m)), ty, pos, af, g⟩ a (I64 (n : Nat)) := fun _ => by subst h; rfl
theorem one_arr8 {n : Nat} {f : Nat → UInt8} : ∀ v ∈ (arr8 n f).toList, v.oneCell' = true := by
  intro v hv
  simp [arr8, tabV] at hv
  obtain ⟨i, _, rfl⟩ := hv; rfl
theorem one_arr32 {n : Nat} {f : Nat → UInt32} : ∀ v ∈ (arr32 n f).toList, v.oneCell' = true := by
  intro v hv
  simp [arr32, tabV] at hv
  obtain ⟨i, _, rfl⟩ := hv; rfl
theorem notAgg {P : Program} {t : TypeId} {D : TypeDesc} (hu : P.underlying t = some D) (hD : isAggD D = false) : ∀ w, (isAgg t).run P w = .ok false w := fun w => by rw [run_isAgg hu, hD]
theorem nf : (∀ (l : List Value) (ds : List Deferred) (t : Tmp), (Act.mk l.toArray ds).eval (.tmp t) = l.getD t undef) ∧ (∀ (a : Act) (v : Value), a.eval (.const v) = v) ∧
  (∀ (l : List Value) (ds : List Deferred) (t : Tmp) (v : Value), (Act.mk l.toArray ds).put (some t) v = Act.mk (l.set t v).toArray ds) ∧ (∀ (a : Act) (v : Value), a.put none v = a) ∧
  (∀ (α : Type) (x : α) (xs : List α) (d : α), (x :: xs).getD 0 d = x) ∧ (∀ (α : Type) (x : α) (xs : List α) (n : Nat) (d : α), (x :: xs).getD (n + 1) d = xs.getD n d) ∧
  (∀ (α : Type) (x : α) (xs : List α) (a : α), (x :: xs).set 0 a = a :: xs) ∧ (∀ (α : Type) (x : α) (xs : List α) (n : Nat) (a : α), (x :: xs).set (n + 1) a = x :: xs.set n a) ∧
  (∀ n : Nat, 0 + n = n) ∧ (∀ n : Nat, n + 0 = n) ∧ (∀ n : Nat, n * 1 = n) ∧ (∀ n : Nat, 0 * n = 0) ∧
  (∀ (α : Type) (xs : List α) (i : Nat) (h : i < xs.toArray.size), xs.toArray[i] = xs[i]'(by simpa using h)) ∧ (∀ (α : Type) (x : α) (xs : List α) (h : 0 < (x :: xs).length), (x :: xs)[0] = x) ∧
  (∀ (α : Type) (x : α) (xs : List α) (i : Nat) (h : i + 1 < (x :: xs).length), (x :: xs)[i + 1] = xs[i]'(Nat.lt_of_succ_lt_succ h)) :=
  ⟨eval_tmp, fun _ _ => rfl, put_some, fun _ _ => rfl, fun _ _ _ _ => rfl, fun _ _ _ _ _ => rfl, fun _ _ _ _ => rfl, fun _ _ _ _ _ => rfl, Nat.zero_add, Nat.add_zero, Nat.mul_one, Nat.zero_mul, fun _ _ _ h => List.getElem_toArray h, fun _ _ _ _ => rfl, fun _ _ _ _ _ => rfl⟩
theorem nh : (∀ (α : Type) (x : α) (xs ys : List α), (x :: xs) ++ ys = x :: (xs ++ ys)) ∧ (∀ (α : Type) (ys : List α), [] ++ ys = ys) ∧ (∀ (α : Type) (xs : List α) (i : Nat) (a : α), xs.toArray.setIfInBounds i a = (xs.set i a).toArray) ∧
  (∀ (n : Nat) (f : Nat → UInt8) (k : Nat) (v : UInt8), (arr8 n f).setIfInBounds k (V8 v) = arr8 n (upd f k v)) ∧ (∀ (n : Nat) (f : Nat → UInt32) (k : Nat) (v : UInt32), (arr32 n f).setIfInBounds k (V32 v) = arr32 n (upd f k v)) ∧ (∀ (n : Nat) (f : Nat → UInt64) (k : Nat) (v : UInt64), (arr64 n f).setIfInBounds k (V64 v) = arr64 n (upd f k v)) :=
  ⟨fun _ _ _ _ => rfl, fun _ _ => rfl, fun _ _ _ _ => List.setIfInBounds_toArray .., fun _ _ _ _ => arr8_set, fun _ _ _ _ => arr32_set, fun _ _ _ _ => arr64_set⟩
section
variable {P : Program} {ops : List Oper} {Q : Exit → Act → World → Prop} {r : List PStep} {a : Act} {w : World} {i : Nat} {d : Option Tmp} {ty : TypeId} {pos : String} {af : Array Edge} {x : Operand} {o : Oper} {v : Value}
theorem pp (ho : ops[i]? = some o) (hg : Region.wanted o (yielded ops.toArray a.tmps) = true) (hrun : PRun P o a v) (h : wpPlan P ops.toArray Q r (a.put o.dst v) w) : wpPlan P ops.toArray Q (.p i :: r) a w := plan_p ho hg hrun h
theorem pq (ho : ops[i]? = some o) (hg : Region.wanted o (yielded ops.toArray a.tmps) = true) (hrun : QRun P o a w v) (h : wpPlan P ops.toArray Q r (a.put o.dst v) w) : wpPlan P ops.toArray Q (.q i :: r) a w := plan_q ho hg hrun h
theorem pm (h : wpPlan P ops.toArray Q r (a.put d (a.eval x)) w) (ho : ops[i]? = some ⟨d, .move x, ty, pos, af, none⟩ := by rfl) : wpPlan P ops.toArray Q (.p i :: r) a w := plan_p ho rfl pr_move h
theorem pa (h : wpPlan P ops.toArray Q r (a.put d (a.eval x)) w) (ho : ops[i]? = some ⟨d, .assign x, ty, pos, af, none⟩ := by rfl) : wpPlan P ops.toArray Q (.p i :: r) a w := plan_p ho rfl pr_assign h
theorem pk (n : Nat) {m : Int} (h : wpPlan P ops.toArray Q r (a.put d (I64 (n : Nat))) w) (ho : ops[i]? = some ⟨d, .move (.const (.int .i64 m)), ty, pos, af, none⟩ := by rfl) (hm : m = (n : Int) := by rfl) : wpPlan P ops.toArray Q (.p i :: r) a w := plan_p ho rfl (pr_const_n n hm) h
theorem pka (n : Nat) {m : Int} (h : wpPlan P ops.toArray Q r (a.put d (I64 (n : Nat))) w) (ho : ops[i]? = some ⟨d, .assign (.const (.int .i64 m)), ty, pos, af, none⟩ := by rfl) (hm : m = (n : Int) := by rfl) : wpPlan P ops.toArray Q (.p i :: r) a w := plan_p ho rfl (pr_aconst_n n hm) h
theorem wrp {id : Nat} {l : List Oper} (pl : List PStep) (h : wpPlan P l.toArray Q pl a w) (hQ : ∀ c a d v w, Q (.panic c) (a.put d v) w → Q (.panic c) a w := by (intro _ _ _ _ _ h; first | exact h | exact BP.panic _ _ _ _ _ h))
    (hm : P.follows .mixedOrders = true := by kernel_rfl) (hsel : Region.noSelect l.toArray = true := by kernel_rfl) (hlen : (pl.length ≤ l.toArray.size : Bool) = true := by kernel_rfl) (hok : planOK (tabOf .any l.toArray) (effects pl) pl [] = true := by kernel_rfl) : (Code.region id l.toArray true).wp P Q a w :=
  wp_region_plan pl hm hsel hlen hok hQ h
theorem wrt {id : Nat} {l : List Oper} (pl : List PStep) (h : wpPlan P l.toArray Q pl a w) (hpl : pl.map PStep.idx = List.range l.toArray.size := by rfl) (hF : noR pl = true := by rfl) : (Code.region id l.toArray false).wp P Q a w := wp_region_text pl hpl h hF
end
theorem cnd : (∀ (p : Prop) [Decidable p], (decide p = true) = p) ∧ (∀ (p : Prop) [Decidable p], (decide p = false) = ¬ p) ∧ (∀ (α : Type) [BEq α] [LawfulBEq α] (a b : α), ((a == b) = true) = (a = b)) ∧ (∀ (α : Type) [BEq α] [LawfulBEq α] (a b : α), ((a != b) = true) = ¬ (a = b)) ∧
  (∀ (α : Type) [BEq α] [LawfulBEq α] (a b : α), ((a == b) = false) = ¬ (a = b)) ∧ (∀ (α : Type) [BEq α] [LawfulBEq α] (a b : α), ((a != b) = false) = (a = b)) ∧ (∀ b : Bool, ((!b) = true) = (b = false)) ∧ (∀ b : Bool, ((!b) = false) = (b = true)) ∧
  (∀ a b : Nat, (¬ a < b) = (b ≤ a)) ∧ (∀ a b : Nat, (¬ a ≤ b) = (b < a)) ∧ (∀ (α : Type) [LT α] (a b : α), (a > b) = (b < a)) ∧ (∀ (α : Type) [LE α] (a b : α), (a ≥ b) = (b ≤ a)) := by
  refine ⟨fun p _ => by simp, fun p _ => by simp, fun α _ _ a b => by simp, fun α _ _ a b => by simp, fun α _ _ a b => by simp, fun α _ _ a b => by simp, by simp, by simp, fun a b => by simp, fun a b => by simp, fun _ _ _ _ => rfl, fun _ _ _ _ => rfl⟩
theorem ga : (∀ (tm : List Value) (s : List Nat), getAll tm s = s.map fun s => tm.getD s undef) ∧ (∀ (α β : Type) (f : α → β) (x : α) (xs : List α), (x :: xs).map f = f x :: xs.map f) ∧ (∀ (α β : Type) (f : α → β), ([] : List α).map f = []) ∧
  (∀ (α : Type) (x : α) (xs : List α) (d : α), (x :: xs).getD 0 d = x) ∧ (∀ (α : Type) (x : α) (xs : List α) (n : Nat) (d : α), (x :: xs).getD (n + 1) d = xs.getD n d) := ⟨fun _ _ => rfl, fun _ _ _ _ _ => rfl, fun _ _ _ => rfl, fun _ _ _ _ => rfl, fun _ _ _ _ _ => rfl⟩
theorem fe : (∀ (α : Type) (l : List α), l.toArray.size = l.length) ∧ (∀ (α : Type) (x : α) (l : List α), (x :: l).length = l.length + 1) ∧ (∀ α : Type, ([] : List α).length = 0) ∧ (∀ (l : List Value) (n : Nat), l.toArray ++ Array.replicate n undef = (l ++ List.replicate n undef).toArray) ∧
  (∀ (α : Type) (n : Nat) (x : α), List.replicate (n + 1) x = x :: List.replicate n x) ∧ (∀ (α : Type) (x : α), List.replicate 0 x = []) ∧ (∀ (α : Type) (l : List α), [] ++ l = l) ∧ (∀ (α : Type) (x : α) (l m : List α), (x :: l) ++ m = x :: (l ++ m)) :=
  ⟨fun _ _ => List.size_toArray, fun _ _ _ => rfl, fun _ => rfl, frame_enter, fun _ _ _ => rfl, fun _ _ => rfl, fun _ _ => rfl, fun _ _ _ _ => rfl⟩
end Go.Proofs.YtmoaddicejohgaaDoor
set_option linter.unusedSimpArgs false
set_option linter.unusedVariables false
namespace Go.Proofs.YtmoaddicejohgaaDoor
open Go
def Sl (w : World) (v : Value) (l : List UInt8) : Prop :=
  ∃ ad c, v = .slice ad l.length c ∧ l.length ≤ c ∧ (l ≠ [] → ∃ b o, ad = some ⟨b, o, none⟩ ∧ ∀ i (h : i < l.length), w.cell? ⟨b, o + i, none⟩ = some (V8 l[i]))
def slb : Value → Nat
  | .slice (some a) _ _ => a.block
  | _ => 0
def slo : Value → Nat
  | .slice (some a) _ _ => a.off
  | _ => 0
def slcut (v : Value) (lo hi : Nat) : Value :=
  match v with
  | .slice ad _ c => .slice (cutA ad lo c 1) (hi - lo) (c - lo)
  | v => v
theorem Sl.chg {w w' : World} {v : Value} {l : List UInt8} (h : Sl w v l) (hc : Chg [] w w') : Sl w' v l := by
  obtain ⟨ad, c, hv, hl, hr⟩ := h
  refine ⟨ad, c, hv, hl, fun hne => ?_⟩
  obtain ⟨b, o, ha, hcell⟩ := hr hne
  exact ⟨b, o, ha, fun i hi => hc.nil_cell (hcell i hi)⟩
theorem Sl.cell {w : World} {v : Value} {l : List UInt8} (h : Sl w v l) {i : Nat} (hi : i < l.length) : w.cell? ⟨slb v, slo v + i, none⟩ = some (V8 (l.getD i 0)) := by
  obtain ⟨ad, c, rfl, hl, hr⟩ := h
  obtain ⟨b, o, rfl, hcell⟩ := hr (by intro e; subst e; simp at hi)
  have := hcell i hi
  simpa [slb, slo, List.getD, hi] using this
theorem Sl.nil {w : World} : Sl w (.slice none 0 0) [] := ⟨none, 0, rfl, Nat.le_refl _, fun h => absurd rfl h⟩
theorem Sl.of_eq {w : World} {v : Value} {l l' : List UInt8} (h : Sl w v l) (e : l = l') : Sl w v l' := e ▸ h
theorem Sl.of_blk {w : World} {b o n c T : Nat} {cs : Array Value} {l : List UInt8} (hb : Blk w b T cs) (hl : l.length = n) (hn : n ≤ c) (h : ∀ i (h : i < l.length), cs[o + i]? = some (V8 l[i])) : Sl w (.slice (some ⟨b, o, none⟩) n c) l := by
  subst hl
  exact ⟨_, c, rfl, hn, fun _ => ⟨b, o, rfl, fun i hi => hb.cell (h i hi)⟩⟩
theorem Sl.of_arr8 {w : World} {b o n c T m : Nat} {f : Nat → UInt8} (hb : Blk w b T (arr8 m f)) (hn : n ≤ c) (hm : o + n ≤ m) : Sl w (.slice (some ⟨b, o, none⟩) n c) ((List.range n).map fun i => f (o + i)) :=
  Sl.of_blk hb (by simp) hn fun i hi => by simp at hi; rw [arr8_get (by omega)]; simp
theorem Sl.len {w : World} {v : Value} {l : List UInt8} (h : Sl w v l) : ∃ ad c, v = .slice ad l.length c ∧ l.length ≤ c := by
  obtain ⟨ad, c, hv, hl, _⟩ := h; exact ⟨ad, c, hv, hl⟩
theorem cutA_full {ad : Option Addr} {c : Nat} : cutA ad 0 c 1 = ad := by
  unfold cutA; split
  · rfl
  · cases ad <;> simp [Addr.add]
theorem Sl.cut {w : World} {v : Value} {l : List UInt8} (h : Sl w v l) {lo hi : Nat} (h1 : lo ≤ hi) (h2 : hi ≤ l.length) : Sl w (slcut v lo hi) ((l.drop lo).take (hi - lo)) := by
  obtain ⟨ad, c, rfl, hl, hr⟩ := h
  have hlen : ((l.drop lo).take (hi - lo)).length = hi - lo := by simp; omega
  refine ⟨cutA ad lo c 1, c - lo, by simp only [slcut, hlen], by rw [hlen]; omega, fun hne => ?_⟩
  have hlt : lo < hi := by
    rcases Nat.lt_or_ge lo hi with h | h
    · exact h
    · exfalso; apply hne; apply List.eq_nil_of_length_eq_zero; rw [hlen]; omega
  obtain ⟨b, o, rfl, hcell⟩ := hr (by intro e; subst e; simp at h2; omega)
  refine ⟨b, o + lo, ?_, fun i hi' => ?_⟩
  · unfold cutA; rw [if_neg (by omega)]; simp [addr_add]
  · rw [hlen] at hi'
    have := hcell (lo + i) (by omega)
    rw [show o + lo + i = o + (lo + i) by omega, this]
    simp
theorem Sl.cutl {w : World} {v : Value} {l : List UInt8} (h : Sl w v l) {lo : Nat} (h1 : lo ≤ l.length) : Sl w (slcut v lo l.length) (l.drop lo) := by
  have := h.cut h1 (Nat.le_refl _)
  rwa [List.take_of_length_le (by simp)] at this
theorem Sl.cuth {w : World} {v : Value} {l : List UInt8} (h : Sl w v l) {hi : Nat} (h1 : hi ≤ l.length) : Sl w (slcut v 0 hi) (l.take hi) := by
  have := h.cut (Nat.zero_le _) h1
  simpa using this
section
variable {P : Program} {a : Act} {w : World} {d : Option Tmp} {ty : TypeId} {pos : String} {af : Array Edge} {g : Option (Nat × Bool)} {x y : Operand} {t T : TypeId}
theorem pr_len_Sl {e : TypeId} {v : Value} {l : List UInt8} (h : Sl w v l) (hx : a.eval x = v) (hu : P.underlying t = some (.slice e)) : PRun P ⟨d, .call ⟨.builtin .len, #[x], #[t]⟩, ty, pos, af, g⟩ a (I64 (l.length : Nat)) := by
  obtain ⟨ad, c, rfl, hl⟩ := h.len
  exact pr_len_sl hx hu
theorem pr_idx_Sl {k : IntKind} {e : TypeId} {i : Nat} {v : Value} {l : List UInt8} (h : Sl w v l) (hx : a.eval x = v) (hy : a.eval y = .int k (i : Int)) (hu : P.underlying t = some (.slice e)) (hs : szc P e = some 1) (hi : i < l.length) :
    PRun P ⟨d, .indexAddr t x y, ty, pos, af, g⟩ a (PT (slb v) (slo v + i)) := by
  obtain ⟨ad, c, rfl, hl, hr⟩ := h
  obtain ⟨b, o, rfl, hcell⟩ := hr (by intro e; subst e; simp at hi)
  exact pr_idxS1 hx hy hu hs hi
theorem pr_slice_Sl_lh {k k' : IntKind} {e : TypeId} {lo hi : Nat} {xl xh : Operand} {v : Value} {l : List UInt8} (h : Sl w v l) (hx : a.eval x = v) (hl : a.eval xl = .int k (lo : Int)) (hh : a.eval xh = .int k' (hi : Int))
    (hu : P.underlying t = some (.slice e)) (hs : szc P e = some 1) (h1 : lo ≤ hi) (h2 : hi ≤ l.length) : PRun P ⟨d, .slice t x (some xl) (some xh) none, ty, pos, af, g⟩ a (slcut v lo hi) := by
  obtain ⟨ad, c, rfl, hl'⟩ := h.len
  exact pr_slice_lh hx hl hh hu hs h1 (by omega)
theorem pr_slice_Sl_h {k' : IntKind} {e : TypeId} {hi : Nat} {xh : Operand} {v : Value} {l : List UInt8} (h : Sl w v l) (hx : a.eval x = v) (hh : a.eval xh = .int k' (hi : Int))
    (hu : P.underlying t = some (.slice e)) (hs : szc P e = some 1) (h2 : hi ≤ l.length) : PRun P ⟨d, .slice t x none (some xh) none, ty, pos, af, g⟩ a (slcut v 0 hi) := by
  obtain ⟨ad, c, rfl, hl'⟩ := h.len
  have := pr_slice_h (d := d) (ty := ty) (pos := pos) (af := af) (g := g) hx hh hu hs (show hi ≤ c by omega)
  simpa [slcut, cutA_full] using this
theorem pr_slice_Sl_l {k : IntKind} {e : TypeId} {lo : Nat} {xl : Operand} {v : Value} {l : List UInt8} (h : Sl w v l) (hx : a.eval x = v) (hl : a.eval xl = .int k (lo : Int))
    (hu : P.underlying t = some (.slice e)) (hs : szc P e = some 1) (h2 : lo ≤ l.length) : PRun P ⟨d, .slice t x (some xl) none none, ty, pos, af, g⟩ a (slcut v lo l.length) := by
  obtain ⟨ad, c, rfl, hl'⟩ := h.len
  exact pr_slice_l hx hl hu hs h2
theorem pr_s2ap_Sl {e : TypeId} {m : Nat} {v : Value} {l : List UInt8} (h : Sl w v l) (hx : a.eval x = v) (hu : P.underlying t = some (.array m e)) (hm : 0 < m) (hl : m ≤ l.length) : PRun P ⟨d, .sliceToArrayPointer t x, ty, pos, af, g⟩ a (PT (slb v) (slo v)) := by
  obtain ⟨ad, c, rfl, hl', hr⟩ := h
  obtain ⟨b, o, rfl, hcell⟩ := hr (by intro e; subst e; simp at hl; omega)
  exact pr_s2ap hx hu hl
theorem qr_load_Sl {D : TypeDesc} {n : Nat} {v : Value} {l : List UInt8} (h : Sl w v l) (hx : a.eval x = PT (slb v) (slo v)) (hu : P.underlying t = some D) (hD : isAggD D = true) (hs : szc P t = some n) (hn : n ≤ l.length) :
    QRun P ⟨d, .load t x, ty, pos, af, g⟩ a w (.agg (arr8 n fun i => l.getD i 0)) := .of_l fun w' hw => by
  refine run_ok_value (w := w') ?_
  have hc : ∀ j, j < n → w'.cell? ⟨slb v, slo v + j, none⟩ = some (V8 (l.getD j 0)) := fun j hj => (h.chg hw).cell (by omega)
  have hl := run_loadCells (P := P) w' ⟨slb v, slo v, none⟩ n (fun j => V8 (l.getD j 0)) (fun j hj => by rw [addr_add]; exact hc j hj)
  simp only [hx, Instr.loadAt, Instr.sureAddr, Sem.run_bind, Sem.run_pure, Result.andThen_ok, loadVar, run_isAgg hu, hD, if_true, run_sizeOf hs, hl]
  rfl
theorem qr_b2s {s e : TypeId} {v : Value} {l : List UInt8} (h : Sl w v l) (hx : a.eval x = v) (hs : P.underlying s = some (.slice e)) (he : P.underlying e = some (.int .u8)) (hd : P.underlying t = some .string) :
    QRun P ⟨d, .convert s t x, ty, pos, af, g⟩ a w (.string ⟨l.toArray⟩) := .of_l fun w' hw => by
  refine run_ok_value (w := w') ?_
  have h' := h.chg hw
  obtain ⟨ad, c, rfl, hl, hr⟩ := h'
  rw [hx]
  rw [run_convert_bytes_string w' s t e ad l.length c hs he hd]
  have hcs : ∀ ad0, ad = some ad0 → (loadCells ad0 l.length).run P w' = .ok ((l.map fun z => (z.toNat : Int)).map (Value.int .u8)).toArray w' := by
    intro ad0 had
    by_cases hne : l = []
    · subst hne; rfl
    · obtain ⟨b, o, hb, hcell⟩ := hr hne
      rw [hb] at had; cases had
      have hcs := run_loadCells_list (P := P) w' ⟨b, o, none⟩ (l.map V8) (fun j v hj => by
        rw [addr_add]
        rw [List.getElem?_map] at hj
        obtain ⟨z, hz, rfl⟩ := Option.map_eq_some_iff.1 hj
        obtain ⟨hlt, rfl⟩ := List.getElem?_eq_some_iff.1 hz
        exact hcell j hlt)
      simp only [List.length_map] at hcs
      rw [hcs]
      simp [List.map_map, Function.comp_def]
  cases ad with
  | none =>
    have : l = [] := by
      apply Classical.byContradiction
      intro hne
      obtain ⟨b, o, hb, _⟩ := hr hne
      cases hb
    subst this
    rfl
  | some ad =>
    rw [run_bytesToString w' ad l.length c _ (hcs ad rfl), foldl_push_bytes]
    simp [List.map_map, Function.comp_def, ByteArray.empty, ByteArray.emptyWithCapacity]
    rfl
end
structure OwnC (o : Option Nat) (n cap s : Nat) (cs : Array Value) (xs : List Value) : Prop where
  le : n ≤ cap
  size : cs.size = cap * s
  nil : o = none → cap = 0
  len : xs.length = n * s
  at_ : ∀ i, i < n * s → cs[i]? = xs[i]?
def own (o : Option Nat) (n cap : Nat) : Value := .slice (o.map fun b => ⟨b, 0, none⟩) n cap
theorem OwnC.start (s : Nat) : OwnC none 0 0 s #[] [] := ⟨Nat.le_refl _, by simp, fun _ => rfl, by simp, by intro i hi; simp at hi⟩
theorem OwnC.sl {w : World} {S : List Nat} {w0 : World} {L : List Own} (hH : Hp S w0 w L) (k : Nat) {o : Option Nat} {t n cap : Nat} {cs : Array Value} (hk : L[k]? = some (o, t, cs)) {l : List UInt8} (h : OwnC o n cap 1 cs (l.map V8)) : Sl w (own o n cap) l := by
  have hlen : l.length = n := by have := h.len; simpa using this
  subst hlen
  refine ⟨_, cap, rfl, h.le, fun hne => ?_⟩
  cases o with
  | none =>
    have := h.nil rfl; have := h.le
    exact absurd (List.eq_nil_of_length_eq_zero (by omega)) hne
  | some b =>
    refine ⟨b, 0, rfl, fun i hi => ?_⟩
    have := h.at_ i (by omega)
    refine (hH.blk k hk).cell ?_
    rw [Nat.zero_add, this]
    simp [hi]
def Src (P : Program) (w : World) (v : Value) (s m : Nat) (news : List Value) : Prop :=
  (∀ w', (Builtin.lenOf v).run P w' = .ok m w') ∧ news.length = m * s ∧ (∀ x ∈ news, x.oneCell' = true) ∧ ∀ w', Chg [] w w' → (Builtin.firstCells s m v).run P w' = .ok news.toArray w'
theorem Sl.src {P : Program} {w : World} {v : Value} {l : List UInt8} (h : Sl w v l) : Src P w v 1 l.length (l.map V8) := by
  refine ⟨?_, by simp, ?_, ?_⟩
  · obtain ⟨ad, c, rfl, _⟩ := h.len
    intro w'; rfl
  · intro x hx
    obtain ⟨z, _, rfl⟩ := List.mem_map.1 hx; rfl
  · intro w' hw
    obtain ⟨ad, c, rfl, hl, hr⟩ := h.chg hw
    cases ad with
    | none =>
      have : l = [] := by
        apply Classical.byContradiction
        intro hne
        obtain ⟨b, o, hb, _⟩ := hr hne
        cases hb
      subst this; rfl
    | some ad =>
      show (loadCells ad (l.length * 1)).run P w' = _
      rw [Nat.mul_one]
      by_cases hne : l = []
      · subst hne; rfl
      · obtain ⟨b, o, hb, hcell⟩ := hr hne
        cases hb
        have hcs := run_loadCells_list (P := P) w' ⟨b, o, none⟩ (l.map V8) (fun j v hj => by
          rw [addr_add]
          rw [List.getElem?_map] at hj
          obtain ⟨z, hz, rfl⟩ := Option.map_eq_some_iff.1 hj
          obtain ⟨hlt, rfl⟩ := List.getElem?_eq_some_iff.1 hz
          exact hcell j hlt)
        simp only [List.length_map] at hcs
        exact hcs
theorem src_string {P : Program} {w : World} (s : ByteArray) : Src P w (.string s) 1 s.size (s.data.toList.map V8) := by
  refine ⟨fun w' => rfl, by simp, ?_, fun w' _ => ?_⟩
  · intro x hx
    obtain ⟨z, _, rfl⟩ := List.mem_map.1 hx; rfl
  · have e : s.extract 0 s.size = s := by simp
    simp only [Builtin.firstCells, e]
    show Result.ok _ w' = _
    congr 1
    apply Array.ext'
    simp
section
variable {P : Program} {ops : List Oper} {Q : Exit → Act → World → Prop} {r : List PStep} {a : Act} {w : World} {i : Nat} {d : Option Tmp} {ty : TypeId} {pos : String} {af : Array Edge} {g : Option (Nat × Bool)} {x y : Operand} {t t' T : TypeId}
  {S : List Nat} {w0 : World} {L : List Own}
def bytesOf (P : Program) (t : TypeId) : Option Nat := (P.info? t).map (·.bytes)
theorem own_first {P : Program} {w : World} {S : List Nat} {w0 : World} {L : List Own} (hH : Hp S w0 w L) (k : Nat) {o : Option Nat} {e n cap s : Nat} {cs : Array Value} {xs : List Value} (hk : L[k]? = some (o, e, cs)) (hO : OwnC o n cap s cs xs) :
    (Builtin.firstCells s n (own o n cap)).run P w = .ok xs.toArray w := by
  cases o with
  | none =>
    have h0 := hO.nil rfl; have := hO.le
    have hn : n = 0 := by omega
    subst hn
    have : xs = [] := List.eq_nil_of_length_eq_zero (by have := hO.len; simpa using this)
    subst this; rfl
  | some b =>
    show (loadCells ⟨b, 0, none⟩ (n * s)).run P w = _
    have hcs := run_loadCells_list (P := P) w ⟨b, 0, none⟩ xs (fun j v hj => by
      rw [addr_add, Nat.zero_add]
      have hlt : j < n * s := by have := (List.getElem?_eq_some_iff.1 hj).1; have := hO.len; omega
      exact (hH.blk k hk).cell ((hO.at_ j hlt).trans hj))
    rwa [hO.len] at hcs
theorem plan_append (k : Nat) {dst : Tmp} {o : Option Nat} {n cap s bts m e : Nat} {cs zc : Array Value} {xs news : List Value} {D : TypeDesc} {vy : Value}
    (ho : ops[i]? = some ⟨some dst, .call ⟨.builtin .append, #[x, y], #[t, t']⟩, ty, pos, af, g⟩) (hg : Region.wanted ⟨some dst, .call ⟨.builtin .append, #[x, y], #[t, t']⟩, ty, pos, af, g⟩ (yielded ops.toArray a.tmps) = true)
    (hH : Hp S w0 w L) (hk : L[k]? = some (o, e, cs)) (hO : OwnC o n cap s cs xs) (hsrc : ∀ w1, Hp S w0 w1 L → Src P w1 vy s m news) (hx : a.eval x = own o n cap) (hy : a.eval y = vy) (hu : P.underlying t = some (.slice e)) (hu' : P.underlying t' = some D) (hD : (∃ e2, D = .slice e2) ∨ D = .string)
    (hs : szc P e = some s) (hb : bytesOf P e = some bts) (hz : zeroC P e = some zc) (hzs : zc.size = s) (hbd : (n + m) * bts ≤ 140737488355328) (hbd' : n + m < 9223372036854775808)
    (h : ∀ o' cap' cs' w', OwnC o' (n + m) cap' s cs' (xs ++ news) → Hp S w0 w' (L.set k (o', e, cs')) → wpPlan P ops.toArray Q r (a.put (some dst) (own o' (n + m) cap')) w') : wpPlan P ops.toArray Q (.e i :: r) a w := by
  refine plan_ev hH ho hg fun w hH => ?_
  obtain ⟨hlen, hnl, hone, hfirst⟩ := hsrc w hH
  have hbts : ∃ inf, P.info? e = some inf ∧ inf.bytes = bts ∧ inf.size = s ∧ ∃ z, inf.zero = some z ∧ z.cells = zc := by
    unfold bytesOf at hb
    obtain ⟨inf, hi, rfl⟩ := Option.map_eq_some_iff.1 hb
    unfold szc at hs
    rw [hi] at hs
    unfold zeroC at hz
    rw [hi] at hz
    obtain ⟨z, hz1, rfl⟩ := Option.map_eq_some_iff.1 hz
    exact ⟨inf, hi, rfl, by simpa using hs, z, by simpa using hz1, rfl⟩
  obtain ⟨inf, hinf, hib, his, z, hiz, hzc⟩ := hbts
  subst his
  have hle := hO.le
  have hexec : ∀ v w', (Builtin.append_ #[t, t'] ty #[own o n cap, vy]).run P w = .ok v w' → (execOp a.eval ⟨some dst, .call ⟨.builtin .append, #[x, y], #[t, t']⟩, ty, pos, af, g⟩).run P w = .ok (.value v) w' := by
    intro v w' hr
    simp only [execOp, resolve, List.map_toArray, List.map_cons, List.map_nil, hx, hy, invoke, builtin, Sem.run_bind, Sem.run_pure, Result.andThen_ok, hr]
  by_cases hroom : n + m ≤ cap
  · 
    have hsz : n * inf.size + news.length ≤ cs.size := by
      rw [hO.size, hnl, ← Nat.add_mul]; exact Nat.mul_le_mul_right _ hroom
    have hown : OwnC o (n + m) cap inf.size (splice cs (n * inf.size) news.toArray) (xs ++ news) := by
      refine ⟨hroom, by rw [splice_size (by simpa using hsz), hO.size], hO.nil, by rw [List.length_append, hO.len, hnl, Nat.add_mul], fun j hj => ?_⟩
      rw [Nat.add_mul] at hj
      rw [splice_get (by simpa using hsz)]
      simp only [List.size_toArray]
      by_cases hjn : j < n * inf.size
      · rw [if_neg (by omega), List.getElem?_append_left (by rw [hO.len]; exact hjn)]; exact hO.at_ j hjn
      · rw [if_pos ⟨by omega, by omega⟩, List.getElem?_append_right (by rw [hO.len]; omega), hO.len]; simp
    have hf := hfirst w (.refl _ _)
    cases o with
    | none =>
      have hc0 := hO.nil rfl
      have hm0 : m = 0 := by omega
      have hn0 : n = 0 := by omega
      subst hm0; subst hn0; subst hc0
      have hnews : news = [] := List.eq_nil_of_length_eq_zero (by simpa using hnl)
      subst hnews
      refine ⟨own none (0 + 0) 0, w, hexec _ _ ?_, h none 0 _ w hown ?_⟩
      · rcases hD with ⟨e2, rfl⟩ | rfl <;> simp [Builtin.append_, run_underlying hu, run_underlying hu', own, sizeOf, typeInfo, hinf, hlen, hroom, hf]
      · have hsp : splice cs (0 * inf.size) ([] : List Value).toArray = cs := by unfold splice; simp
        rw [hsp]
        exact hH.say k hk rfl
    | some b =>
      obtain ⟨w', hr, hB, hoth, hsz', e1, e2, e3⟩ := run_storeCells_blk (P := P) news 0 (n * inf.size) w cs (hH.blk k hk) (by simpa using hsz) hone
      refine ⟨own (some b) (n + m) cap, w', hexec _ _ ?_, h (some b) cap _ w' hown ?_⟩
      · rcases hD with ⟨e2, rfl⟩ | rfl <;> simp [Builtin.append_, run_underlying hu, run_underlying hu', own, sizeOf, typeInfo, hinf, hlen, hroom, hf, addr_add, hr]
      · refine hH.put k hk ?_ (by simpa using hB) fun k' hk' _ => hoth k' hk'
        refine hH.chg.trans' (T := [b]) ⟨e1, e2, e3, by omega, fun k' hk' hn => hoth k' (by simpa using hn)⟩ ?_
        intro z' hz' hlt
        simp only [List.mem_singleton] at hz'
        subst hz'
        rcases hH.mine k hk with h1 | h1
        · omega
        · exact h1
  · 
    obtain ⟨c, hc, hch⟩ : ∃ c, n + m ≤ c ∧ (Question.appendCap (n + m) cap e).cut (w.tape w.drawn (.appendCap (n + m) cap e)) = c := ⟨_, by simp [Question.cut], rfl⟩
    have hfc : (Question.appendCap (n + m) cap e).forced = false := rfl
    have hd : Chg [] w w.drew := (Chg.refl _ _).drew
    have hf := hfirst w.drew hd
    have hfo := own_first (P := P) (hH.call hd) k hk hO
    have hfit := growslice_fits (bytes := inf.bytes) (show cap < n + m by omega) (by rw [hib]; exact hbd)
    have h48 : ¬ (281474976710656 < Builtin.nextslicecap (n + m) cap * inf.bytes) := by omega
    have h63 : ¬ (9223372036854775807 < ((n : Int) + (m : Int))) := by omega
    have hzl : (Builtin.zeroCells zc (c - (n + m))).size = (c - (n + m)) * zc.size := by simp [Builtin.zeroCells]
    refine ⟨own (some w.drew.heap.size) (n + m) c, w.drew.alloc (.cells (xs.toArray ++ news.toArray ++ Builtin.zeroCells zc (c - (n + m))) e), hexec _ _ ?_, h (some w.drew.heap.size) c (xs.toArray ++ news.toArray ++ Builtin.zeroCells zc (c - (n + m))) _ ⟨hc, ?_, (by intro h; cases h), by rw [List.length_append, hO.len, hnl, Nat.add_mul], fun j hj => ?_⟩ ?_⟩
    · rcases hD with ⟨e2, rfl⟩ | rfl <;> simp [Builtin.append_, run_underlying hu, run_underlying hu', own, sizeOf, typeInfo, zeroValue, hinf, hiz, hlen, hroom, h63, h48, hfc, hch, hzc, newRow]
      all_goals (simp only [own] at hfo; rw [hfo]; simp only [Result.andThen_ok]; rw [hf]; simp; congr 2; apply Array.ext'; simp)
    · simp only [Array.size_append, List.size_toArray, hzl, hO.len, hnl, hzs]
      rw [← Nat.add_mul, ← Nat.add_mul]; congr 1; omega
    · have : j < (xs ++ news).length := by rw [List.length_append, hO.len, hnl, ← Nat.add_mul]; exact hj
      rw [Array.getElem?_append_left (by simpa using this)]
      simp
    · refine (hH.call hd).turn k hk _ ?_ ?_ ?_ ?_
      · exact hH.chg.trans' (T := []) (hd.alloc _) (by simp)
      · intro b hb'
        cases hb'
        exact ⟨.inl (by have := hH.chg.size; exact this), Blk.new _ _ _⟩
      · intro b hb'; cases hb'; exact .inr (Nat.le_refl _)
      · intro k' _ hlt
        exact RowKit.Below.heap_alloc _ _ _ hlt
theorem plan_make {dst : Tmp} {e n c s bts : Nat} {zc : Array Value} {k k' : IntKind} (ho : ops[i]? = some ⟨some dst, .makeSlice t x y, ty, pos, af, g⟩) (hg : Region.wanted ⟨some dst, .makeSlice t x y, ty, pos, af, g⟩ (yielded ops.toArray a.tmps) = true)
    (hH : Hp S w0 w L) (hx : a.eval x = .int k (n : Int)) (hy : a.eval y = .int k' (c : Int)) (hu : P.underlying t = some (.slice e)) (hs : szc P e = some s) (hb : bytesOf P e = some bts) (hz : zeroC P e = some zc) (hzs : zc.size = s)
    (hnc : n ≤ c) (hbd : bts * c ≤ 281474976710656) (hc : c < 9223372036854775808)
    (h : ∀ b w', Hp S w0 w' (L ++ [(some b, e, madeCells zc (c * s))]) → wpPlan P ops.toArray Q r (a.put (some dst) (own (some b) n c)) w') : wpPlan P ops.toArray Q (.x i :: r) a w := by
  refine plan_xv hH ho hg fun w hH => ⟨own (some w.heap.size) n c, w.alloc (.cells (madeCells zc (c * s)) e), ?_, (Chg.refl _ _).alloc _, h _ _ (hH.alloc e _)⟩
  unfold bytesOf at hb
  obtain ⟨inf, hi, rfl⟩ := Option.map_eq_some_iff.1 hb
  unfold szc at hs
  rw [hi] at hs
  unfold zeroC at hz
  rw [hi] at hz
  obtain ⟨z, hz1, rfl⟩ := Option.map_eq_some_iff.1 hz
  have hsz : inf.size = s := by simpa using hs
  have hbd' : (inf.bytes : Int) * c ≤ 281474976710656 := by
    have e : ((inf.bytes * c : Nat) : Int) = (inf.bytes : Int) * c := by simp
    omega
  have := run_make w t e inf z hu hi (by simpa using hz1) k k' n c (by omega) (by omega) hbd' (by omega)
  simp only [execOp, hx, hy, Sem.run_bind, this, Result.andThen_ok]
  rw [hsz]
  rfl
theorem made_arr8 {n : Nat} : madeCells #[V8 0] n = arr8 n fun _ => 0 := by
  refine tabV_ext (size_madeCells _ _) fun i hi => ?_
  simp [madeCells, hi, Nat.mod_one]
theorem OwnC.made0 {b c s : Nat} {cs : Array Value} (h : cs.size = c * s) : OwnC (some b) 0 c s cs [] := ⟨Nat.zero_le _, h, (by intro h; cases h), by simp, by intro i hi; simp at hi⟩
theorem OwnC.made {b n : Nat} {f : Nat → UInt8} : OwnC (some b) n n 1 (arr8 n f) (((List.range n).map f).map V8) :=
  ⟨Nat.le_refl _, by simp, (by intro h; cases h), by simp, fun i hi => by rw [Nat.mul_one] at hi; rw [arr8_get hi]; simp [hi]⟩
theorem OwnC.of_bytes {b n : Nat} {l : List UInt8} (h : l.length = n) : OwnC (some b) n n 1 (bytes l) (l.map V8) :=
  ⟨Nat.le_refl _, by simp [h], (by intro h; cases h), by simp [h], fun i hi => by rw [bytes_get]; simp⟩
theorem plan_buildSlice {dst : Tmp} {e n : Nat} {cs : Array Value} {parts : List (Nat × Operand)} {vs : List (Nat × Value)} (ho : ops[i]? = some ⟨some dst, .buildSlice t n parts.toArray, ty, pos, af, g⟩) (hg : Region.wanted ⟨some dst, .buildSlice t n parts.toArray, ty, pos, af, g⟩ (yielded ops.toArray a.tmps) = true)
    (hH : Hp S w0 w L) (hu : P.underlying t = some (.slice e)) (hv : (parts.map fun p => (p.1, a.eval p.2)) = vs)
    (hrun : ∀ w, (Instr.buildSlice t n vs.toArray).run P w = .ok (.slice (some ⟨w.heap.size, 0, none⟩) n n) (w.alloc (.cells cs e)))
    (h : ∀ b w', Hp S w0 w' (L ++ [(some b, e, cs)]) → wpPlan P ops.toArray Q r (a.put (some dst) (own (some b) n n)) w') : wpPlan P ops.toArray Q (.x i :: r) a w := by
  refine plan_xv hH ho hg fun w hH => ⟨own (some w.heap.size) n n, w.alloc (.cells cs e), ?_, (Chg.refl _ _).alloc _, h _ _ (hH.alloc e _)⟩
  have hv' : (parts.toArray.map fun (p : Nat × Operand) => (p.1, a.eval p.2)) = vs.toArray := by rw [← hv]; simp
  simp only [execOp, Sem.run_bind]
  rw [show (parts.toArray.map fun x => match x with | (i, x) => (i, a.eval x)) = vs.toArray from hv', hrun w]
  rfl
theorem plan_mark (k : Nat) {dst : Tmp} {b n c e T : Nat} {cs : Array Value} (ho : ops[i]? = some ⟨some dst, .convert t t x, ty, pos, af, g⟩) (hg : Region.wanted ⟨some dst, .convert t t x, ty, pos, af, g⟩ (yielded ops.toArray a.tmps) = true)
    (hH : Hp S w0 w L) (hk : L[k]? = some (some b, T, cs)) (hx : a.eval x = own (some b) n c) (hu : P.underlying t = some (.slice e)) (he : P.underlying e = some (.int .u8))
    (h : ∀ w', Hp S w0 w' (L.set k (some b, T, cs)) → wpPlan P ops.toArray Q r (a.put (some dst) (own (some b) n c)) w') : wpPlan P ops.toArray Q (.e i :: r) a w := by
  refine plan_ev hH ho hg fun w hH => ⟨own (some b) n c, w.freeze ⟨b, cs.size, none⟩ 1, ?_, h _ (hH.mark k hk)⟩
  obtain ⟨fr, hb, _⟩ := hH.blk k hk
  have hsh : w.shape? b = some (T, cs.size) := by simp [World.shape?, hb]
  simp only [execOp, hx]
  simp [own, convert, run_underlying hu, run_underlying he, markStringish, hsh]
theorem plan_copy (k : Nat) {e b o dl dc m : Nat} {f : Nat → UInt8} {l : List UInt8} {vy : Value} {dst : Option Tmp}
    (ho : ops[i]? = some ⟨dst, .call ⟨.builtin .copy, #[x, y], #[t, t']⟩, ty, pos, af, g⟩) (hg : Region.wanted ⟨dst, .call ⟨.builtin .copy, #[x, y], #[t, t']⟩, ty, pos, af, g⟩ (yielded ops.toArray a.tmps) = true)
    (hH : Hp S w0 w L) (hk : L[k]? = some (some b, T, arr8 m f)) (hsrc : ∀ w1, Hp S w0 w1 L → (∀ w', (Builtin.lenOf vy).run P w' = .ok l.length w') ∧ ∀ n, n ≤ l.length → (Builtin.firstCells 1 n vy).run P w1 = .ok (bytes (l.take n)) w1)
    (hx : a.eval x = .slice (some ⟨b, o, none⟩) dl dc) (hy : a.eval y = vy) (hu : P.underlying t = some (.slice e)) (hs : szc P e = some 1) (hfit : o + dl ≤ m)
    (h : ∀ w', Hp S w0 w' (L.set k (some b, T, arr8 m fun j => if o ≤ j ∧ j < o + min l.length dl then l.getD (j - o) 0 else f j)) → wpPlan P ops.toArray Q r (a.put dst (I64 (min l.length dl : Nat))) w') : wpPlan P ops.toArray Q (.e i :: r) a w := by
  refine plan_ev hH ho hg fun w hH => ?_
  obtain ⟨hlen, hfirst⟩ := hsrc w hH
  have hf := hfirst (min l.length dl) (Nat.min_le_left _ _)
  have hl2 : (bytes (l.take (min l.length dl))).toList.length = min l.length dl := by simp [bytes]
  obtain ⟨w', hr, hB, hoth, hsz, e1, e2, e3⟩ := run_storeCells_blk (P := P) (bytes (l.take (min l.length dl))).toList 0 o w _ (hH.blk k hk) (by rw [hl2]; simp; omega) (by
    intro v hv
    obtain ⟨z, _, rfl⟩ := List.mem_map.1 (show v ∈ (l.take (min l.length dl)).map V8 from hv); rfl)
  refine ⟨I64 (min l.length dl : Nat), w', ?_, h w' ?_⟩
  · simp only [execOp, resolve, List.map_toArray, List.map_cons, List.map_nil, hx, hy, invoke, builtin, Sem.run_bind, Sem.run_pure, Result.andThen_ok]
    have : (Builtin.copy_ #[t, t'] ty #[.slice (some ⟨b, o, none⟩) dl dc, vy]).run P w = .ok (I64 (min l.length dl : Nat)) w' := by
      simp only [Builtin.copy_]
      simp [run_underlying hu, hlen, run_sizeOf hs]
      have hf' : (Builtin.firstCells 1 (min l.length dl) vy).run P w = .ok (bytes (l.take (min l.length dl))) w := hf
      rw [show Nat.min l.length dl = min l.length dl from rfl, hf']
      simp [hr, goInt]
    rw [this]; rfl
  · refine hH.put k hk ?_ ?_ fun k' hk' _ => hoth k' hk'
    · refine hH.chg.trans' (T := [b]) ⟨e1, e2, e3, by omega, fun k' hk' hn => hoth k' (by simpa using hn)⟩ ?_
      intro z' hz' hlt
      simp only [List.mem_singleton] at hz'
      subst hz'
      rcases hH.mine k hk with h1 | h1
      · omega
      · exact h1
    · have hsp : splice (arr8 m f) (o + 0) (bytes (l.take (min l.length dl))).toList.toArray = arr8 m fun j => if o ≤ j ∧ j < o + min l.length dl then l.getD (j - o) 0 else f j := by
        refine tabV_ext (by rw [splice_size (by simp; omega)]; simp) fun j hj => ?_
        rw [splice_get (by simp; omega)]
        simp only [Nat.add_zero, Array.toArray_toList, bytes_size, List.length_take]
        by_cases hc : o ≤ j ∧ j < o + min (min l.length dl) l.length
        · rw [if_pos hc, if_pos ⟨hc.1, by omega⟩, bytes_get, List.getElem?_take, if_pos (by omega), List.getElem?_eq_getElem (by omega)]
          simp [List.getD, show j - o < l.length by omega]
        · rw [if_neg hc, if_neg (by omega), arr8_get hj]
      rw [← hsp]; exact hB
theorem Sl.csrc {v : Value} {l : List UInt8} (h : Sl w v l) : (∀ w', (Builtin.lenOf v).run P w' = .ok l.length w') ∧ ∀ n, n ≤ l.length → (Builtin.firstCells 1 n v).run P w = .ok (bytes (l.take n)) w := by
  refine ⟨(h.src (P := P)).1, fun n hn => ?_⟩
  have := ((h.cuth hn).src (P := P)).2.2.2 w (.refl _ _)
  obtain ⟨ad, c, rfl, hc⟩ := h.len
  have e : slcut (.slice ad l.length c) 0 n = .slice ad n c := by simp [slcut, cutA_full]
  rw [e] at this
  have hl : (l.take n).length = n := by simp; omega
  rw [hl] at this
  cases ad <;> exact this
end
end Go.Proofs.YtmoaddicejohgaaDoor
set_option linter.unusedSimpArgs false
set_option linter.unusedVariables false
namespace Go.Proofs.YtmoaddicejohgaaDoor
open Go
theorem pr_build {P : Program} {a : Act} {d : Option Tmp} {ty : TypeId} {pos : String} {af : Array Edge} {g : Option (Nat × Bool)} {t : TypeId} {parts : List (Nat × Operand)} {vs : List (Nat × Value)} {v : Value}
    (hv : (parts.map fun p => (p.1, a.eval p.2)) = vs) (hrun : ∀ w, (Instr.build t vs.toArray).run P w = .ok v w) : PRun P ⟨d, .build t parts.toArray, ty, pos, af, g⟩ a v := fun w => by
  have hv' : (parts.toArray.map fun (p : Nat × Operand) => (p.1, a.eval p.2)) = vs.toArray := by rw [← hv]; simp
  simp only [execOp, Sem.run_bind]
  rw [show (parts.toArray.map fun x => match x with | (i, x) => (i, a.eval x)) = vs.toArray from hv', hrun w]
  rfl
section
variable {P : Program} {t e : TypeId} {x y : Operand}
end
end Go.Proofs.YtmoaddicejohgaaDoor
set_option linter.unusedSimpArgs false
set_option linter.unusedVariables false
set_option maxRecDepth 100000
set_option maxHeartbeats 4000000
namespace Go.Proofs.YtmoaddicejohgaaDoor
open Go
open List (getD_cons_zero getD_cons_succ set_cons_zero set_cons_succ)
theorem sz3 : szc Tryd.prog 3 = some 1 := by kernel_rfl
theorem sz4 : szc Tryd.prog 4 = some 1 := by kernel_rfl
theorem sz5 : szc Tryd.prog 5 = some 1 := by kernel_rfl
theorem sz9 : szc Tryd.prog 9 = some 1 := by kernel_rfl
theorem sz22 : szc Tryd.prog 22 = some 1 := by kernel_rfl
theorem sz30 : szc Tryd.prog 30 = some 3 := by kernel_rfl
theorem sz32 : szc Tryd.prog 32 = some 9 := by kernel_rfl
theorem sz37 : szc Tryd.prog 37 = some 3 := by kernel_rfl
theorem sz49 : szc Tryd.prog 49 = some 1 := by kernel_rfl
theorem sz80 : szc Tryd.prog 80 = some 1 := by kernel_rfl
theorem sz85 : szc Tryd.prog 85 = some 2 := by kernel_rfl
theorem sz87 : szc Tryd.prog 87 = some 16 := by kernel_rfl
theorem sz96 : szc Tryd.prog 96 = some 32 := by kernel_rfl
theorem sz99 : szc Tryd.prog 99 = some 256 := by kernel_rfl
theorem sz107 : szc Tryd.prog 107 = some 176 := by kernel_rfl
theorem sz113 : szc Tryd.prog 113 = some 1 := by kernel_rfl
theorem sz117 : szc Tryd.prog 117 = some 64 := by kernel_rfl
theorem sz125 : szc Tryd.prog 125 = some 8 := by kernel_rfl
theorem sz133 : szc Tryd.prog 133 = some 64 := by kernel_rfl
theorem zc87 : zeroC Tryd.prog 87 = some (arr8 16 fun _ => 0) := by kernel_rfl
theorem zc96 : zeroC Tryd.prog 96 = some (arr8 32 fun _ => 0) := by kernel_rfl
theorem zc99 : zeroC Tryd.prog 99 = some (arr8 256 fun _ => 0) := by kernel_rfl
theorem zc117 : zeroC Tryd.prog 117 = some (arr8 64 fun _ => 0) := by kernel_rfl
theorem zc125 : zeroC Tryd.prog 125 = some (arr32 8 fun _ => 0) := by kernel_rfl
theorem zc133 : zeroC Tryd.prog 133 = some (arr32 64 fun _ => 0) := by kernel_rfl
theorem ze5 : zeroC Tryd.prog 5 = some #[V8 0] := by kernel_rfl
theorem bz5 : bytesOf Tryd.prog 5 = some 1 := by kernel_rfl
theorem ba125 (x0 x1 x2 x3 x4 x5 x6 x7 : UInt32) : ∀ w, (Instr.build 125 [(0, V32 x0), (1, V32 x1), (2, V32 x2), (3, V32 x3), (4, V32 x4), (5, V32 x5), (6, V32 x6), (7, V32 x7)].toArray).run Tryd.prog w = .ok (.agg (arr32 8 fun i => [x0, x1, x2, x3, x4, x5, x6, x7].getD i 0)) w := fun w => by kernel_rfl
theorem bs0 : ∀ w, (Instr.buildSlice 22 0 [].toArray).run Tryd.prog w = .ok (.slice (some ⟨w.heap.size, 0, none⟩) 0 0) (w.alloc (.cells (bytes []) 5)) := fun w => by kernel_rfl
theorem bs1 (x0 : UInt8) : ∀ w, (Instr.buildSlice 22 1 [(0, V8 x0)].toArray).run Tryd.prog w = .ok (.slice (some ⟨w.heap.size, 0, none⟩) 1 1) (w.alloc (.cells (bytes [x0]) 5)) := fun w => by kernel_rfl
theorem bs3 (x0 x1 x2 : UInt8) : ∀ w, (Instr.buildSlice 22 3 [(0, V8 x0), (1, V8 x1), (2, V8 x2)].toArray).run Tryd.prog w = .ok (.slice (some ⟨w.heap.size, 0, none⟩) 3 3) (w.alloc (.cells (bytes [x0, x1, x2]) 5)) := fun w => by kernel_rfl
theorem bs4 (x0 x1 x2 x3 : UInt8) : ∀ w, (Instr.buildSlice 22 4 [(0, V8 x0), (1, V8 x1), (2, V8 x2), (3, V8 x3)].toArray).run Tryd.prog w = .ok (.slice (some ⟨w.heap.size, 0, none⟩) 4 4) (w.alloc (.cells (bytes [x0, x1, x2, x3]) 5)) := fun w => by kernel_rfl
theorem cf8 : Callable Tryd.prog 8 := ⟨Tryd.f8, Tryd.func8, by kernel_rfl, by kernel_rfl⟩
theorem cf11 : Callable Tryd.prog 11 := ⟨Tryd.f11, Tryd.func11, by kernel_rfl, by kernel_rfl⟩
theorem cf13 : Callable Tryd.prog 13 := ⟨Tryd.f13, Tryd.func13, by kernel_rfl, by kernel_rfl⟩
theorem cf16 : Callable Tryd.prog 16 := ⟨Tryd.f16, Tryd.func16, by kernel_rfl, by kernel_rfl⟩
theorem cf18 : Callable Tryd.prog 18 := ⟨Tryd.f18, Tryd.func18, by kernel_rfl, by kernel_rfl⟩
theorem cf19 : Callable Tryd.prog 19 := ⟨Tryd.f19, Tryd.func19, by kernel_rfl, by kernel_rfl⟩
theorem cf20 : Callable Tryd.prog 20 := ⟨Tryd.f20, Tryd.func20, by kernel_rfl, by kernel_rfl⟩
theorem cf22 : Callable Tryd.prog 22 := ⟨Tryd.f22, Tryd.func22, by kernel_rfl, by kernel_rfl⟩
theorem cf23 : Callable Tryd.prog 23 := ⟨Tryd.f23, Tryd.func23, by kernel_rfl, by kernel_rfl⟩
theorem cf27 : Callable Tryd.prog 27 := ⟨Tryd.f27, Tryd.func27, by kernel_rfl, by kernel_rfl⟩
theorem cf28 : Callable Tryd.prog 28 := ⟨Tryd.f28, Tryd.func28, by kernel_rfl, by kernel_rfl⟩
theorem cf29 : Callable Tryd.prog 29 := ⟨Tryd.f29, Tryd.func29, by kernel_rfl, by kernel_rfl⟩
theorem cf31 : Callable Tryd.prog 31 := ⟨Tryd.f31, Tryd.func31, by kernel_rfl, by kernel_rfl⟩
theorem cf32 : Callable Tryd.prog 32 := ⟨Tryd.f32, Tryd.func32, by kernel_rfl, by kernel_rfl⟩
theorem cf35 : Callable Tryd.prog 35 := ⟨Tryd.f35, Tryd.func35, by kernel_rfl, by kernel_rfl⟩
theorem cf36 : Callable Tryd.prog 36 := ⟨Tryd.f36, Tryd.func36, by kernel_rfl, by kernel_rfl⟩
theorem cf37 : Callable Tryd.prog 37 := ⟨Tryd.f37, Tryd.func37, by kernel_rfl, by kernel_rfl⟩
theorem cf38 : Callable Tryd.prog 38 := ⟨Tryd.f38, Tryd.func38, by kernel_rfl, by kernel_rfl⟩
theorem cf42 : Callable Tryd.prog 42 := ⟨Tryd.f42, Tryd.func42, by kernel_rfl, by kernel_rfl⟩
theorem cf43 : Callable Tryd.prog 43 := ⟨Tryd.f43, Tryd.func43, by kernel_rfl, by kernel_rfl⟩
theorem cf44 : Callable Tryd.prog 44 := ⟨Tryd.f44, Tryd.func44, by kernel_rfl, by kernel_rfl⟩
theorem cf45 : Callable Tryd.prog 45 := ⟨Tryd.f45, Tryd.func45, by kernel_rfl, by kernel_rfl⟩
theorem cf46 : Callable Tryd.prog 46 := ⟨Tryd.f46, Tryd.func46, by kernel_rfl, by kernel_rfl⟩
theorem cf47 : Callable Tryd.prog 47 := ⟨Tryd.f47, Tryd.func47, by kernel_rfl, by kernel_rfl⟩
theorem cf49 : Callable Tryd.prog 49 := ⟨Tryd.f49, Tryd.func49, by kernel_rfl, by kernel_rfl⟩
theorem cf50 : Callable Tryd.prog 50 := ⟨Tryd.f50, Tryd.func50, by kernel_rfl, by kernel_rfl⟩
theorem cf51 : Callable Tryd.prog 51 := ⟨Tryd.f51, Tryd.func51, by kernel_rfl, by kernel_rfl⟩
theorem cf52 : Callable Tryd.prog 52 := ⟨Tryd.f52, Tryd.func52, by kernel_rfl, by kernel_rfl⟩
theorem cf60 : Callable Tryd.prog 60 := ⟨Tryd.f60, Tryd.func60, by kernel_rfl, by kernel_rfl⟩
theorem cf61 : Callable Tryd.prog 61 := ⟨Tryd.f61, Tryd.func61, by kernel_rfl, by kernel_rfl⟩
theorem cf62 : Callable Tryd.prog 62 := ⟨Tryd.f62, Tryd.func62, by kernel_rfl, by kernel_rfl⟩
theorem cf63 : Callable Tryd.prog 63 := ⟨Tryd.f63, Tryd.func63, by kernel_rfl, by kernel_rfl⟩
theorem cf64 : Callable Tryd.prog 64 := ⟨Tryd.f64, Tryd.func64, by kernel_rfl, by kernel_rfl⟩
theorem cf65 : Callable Tryd.prog 65 := ⟨Tryd.f65, Tryd.func65, by kernel_rfl, by kernel_rfl⟩
theorem cf66 : Callable Tryd.prog 66 := ⟨Tryd.f66, Tryd.func66, by kernel_rfl, by kernel_rfl⟩
theorem cf68 : Callable Tryd.prog 68 := ⟨Tryd.f68, Tryd.func68, by kernel_rfl, by kernel_rfl⟩
theorem cf69 : Callable Tryd.prog 69 := ⟨Tryd.f69, Tryd.func69, by kernel_rfl, by kernel_rfl⟩
theorem cf70 : Callable Tryd.prog 70 := ⟨Tryd.f70, Tryd.func70, by kernel_rfl, by kernel_rfl⟩
theorem cf71 : Callable Tryd.prog 71 := ⟨Tryd.f71, Tryd.func71, by kernel_rfl, by kernel_rfl⟩
theorem cf74 : Callable Tryd.prog 74 := ⟨Tryd.f74, Tryd.func74, by kernel_rfl, by kernel_rfl⟩
theorem cf75 : Callable Tryd.prog 75 := ⟨Tryd.f75, Tryd.func75, by kernel_rfl, by kernel_rfl⟩
theorem cf76 : Callable Tryd.prog 76 := ⟨Tryd.f76, Tryd.func76, by kernel_rfl, by kernel_rfl⟩
end Go.Proofs.YtmoaddicejohgaaDoor
set_option linter.unusedSimpArgs false
set_option linter.unusedVariables false
namespace Go.Proofs.YtmoaddicejohgaaDoor
open Go
def arrB (n : Nat) (f : Nat → Bool) : Array Value := tabV n (fun i => BV (f i))
@[simp] theorem arrB_size (n : Nat) (f : Nat → Bool) : (arrB n f).size = n := by simp [arrB]
theorem arrB_set {n : Nat} {f : Nat → Bool} {k : Nat} {v : Bool} : (arrB n f).setIfInBounds k (BV v) = arrB n (upd f k v) := by
  unfold arrB; rw [tabV_set]; congr 1; funext i; unfold upd; split <;> rfl
theorem OwnC.setb {o : Option Nat} {n cap i : Nat} {cs : Array Value} {l : List UInt8} (h : OwnC o n cap 1 cs (l.map V8)) (hi : i < n) (v : UInt8) : OwnC o n cap 1 (cs.setIfInBounds i (V8 v)) ((l.set i v).map V8) where
  le := h.le
  size := by rw [Array.size_setIfInBounds]; exact h.size
  nil := h.nil
  len := by rw [List.length_map, List.length_set]; have := h.len; rwa [List.length_map] at this
  at_ j hj := by
    have hs := h.size
    have hle := h.le
    have hlen : l.length = n := by have := h.len; simpa using this
    rw [Array.getElem?_setIfInBounds, List.getElem?_map, List.getElem?_set]
    by_cases e : i = j
    · subst e
      rw [if_pos rfl, if_pos rfl, if_pos (by omega), if_pos (by omega)]; rfl
    · rw [if_neg e, if_neg e, h.at_ j hj, List.getElem?_map]
theorem Sl.head {w : World} {ad : Option Addr} {n c h : Nat} {l : List UInt8} (hs : Sl w (.slice ad n c) l) (hh : h ≤ l.length) : Sl w (.slice ad h c) (l.take h) := by
  have := hs.cuth hh
  simpa [slcut, cutA_full] using this
theorem Hp.callnew2 {S : List Nat} {w0 w w' : World} {L : List Own} (h : Hp S w0 w L) (hc : Chg [] w w') {b b' : Nat} {t t' : TypeId} {cs cs' : Array Value} (hb : Blk w' b t cs) (hn : w.heap.size ≤ b) (hb' : Blk w' b' t' cs') (hn' : w.heap.size ≤ b') (hne : b ≠ b') :
    Hp S w0 w' (L ++ [(some b, t, cs), (some b', t', cs')]) := by
  have h1 := h.callnew hc hb hn
  have h2 := h1.add (some b', t', cs') (fun x hx => by cases hx; exact ⟨.inl (Nat.le_trans h.chg.size hn'), hb'⟩) (fun x hx y hy hxy => by
    cases hy
    rcases List.mem_append.1 hx with hx | hx
    · have := h.lt hx hxy; omega
    · simp only [List.mem_singleton] at hx; subst hx; cases hxy; exact hne rfl)
  rwa [List.append_assoc] at h2
theorem Hp.name {S : List Nat} {w0 w : World} {L : List Own} (h : Hp S w0 w L) (i : Nat) {b : Option Nat} {t : TypeId} {cs : Array Value} (hi : L[i]? = some (b, t, cs)) : ∃ z, cs = z ∧ Hp S w0 w (L.set i (b, t, z)) := ⟨cs, rfl, h.say i hi rfl⟩
section
variable {P : Program} {ops : List Oper} {Q : Exit → Act → World → Prop} {r : List PStep} {a : Act} {w : World} {i : Nat} {d : Option Tmp} {ty : TypeId} {pos : String} {af : Array Edge} {g : Option (Nat × Bool)} {x y : Operand} {t t' T : TypeId}
  {S : List Nat} {w0 : World} {L : List Own}
theorem plan_storeO (k : Nat) {o : Option Nat} {n cap j : Nat} {cs : Array Value} {l : List UInt8} {v : UInt8} (ho : ops[i]? = some ⟨none, .store t x y, ty, pos, af, g⟩) (hg : Region.wanted ⟨none, .store t x y, ty, pos, af, g⟩ (yielded ops.toArray a.tmps) = true)
    (hH : Hp S w0 w L) (hx : a.eval x = PT (slb (own o n cap)) (slo (own o n cap) + j)) (hi : L[k]? = some (o, T, cs)) (hO : OwnC o n cap 1 cs (l.map V8)) (hy : a.eval y = V8 v) (hs : szc P t = some 1) (hj : j < n)
    (h : ∀ cs' w', OwnC o n cap 1 cs' ((l.set j v).map V8) → Hp S w0 w' (L.set k (o, T, cs')) → wpPlan P ops.toArray Q r a w') : wpPlan P ops.toArray Q (.e i :: r) a w := by
  cases o with
  | none => have := hO.nil rfl; have := hO.le; omega
  | some b =>
    refine plan_store1 k (o := 0 + j) ho hg hH hx hi hy rfl hs (by have := hO.size; have := hO.le; omega) fun w' hH' => ?_
    rw [Nat.zero_add] at hH'
    exact h _ w' (hO.setb hj v) hH'
theorem plan_sk {R : World → World → Prop} {o : Oper} (hH : Hp S w0 w L) (ho : ops[i]? = some o) (hg : Region.wanted o (yielded ops.toArray a.tmps) = true) (h : ∀ w1, Hp S w0 w1 L → ∃ w', (execOp a.eval o).run P w1 = .ok .skip w' ∧ R w1 w' ∧ wpPlan P ops.toArray Q r (a.put o.dst undef) w') : wpPlan P ops.toArray Q (.s i R :: r) a w := fun w1 hw => by
  obtain ⟨w', hr, hn⟩ := h w1 (hH.call hw)
  unfold wpOp
  simp only [at_list ho, hg, if_true]
  exact .inl (by unfold Oper.wp; rw [hr]; exact hn)
theorem plan_store1s (n : Nat) {D : List Nat} {b o : Nat} {cs : Array Value} {v : Value} (ho : ops[i]? = some ⟨none, .store t x y, ty, pos, af, g⟩) (hg : Region.wanted ⟨none, .store t x y, ty, pos, af, g⟩ (yielded ops.toArray a.tmps) = true)
    (hH : Hp S w0 w L) (hx : a.eval x = PT b o) (hi : L[n]? = some (some b, T, cs)) (hy : a.eval y = v) (h1 : v.oneCell' = true) (hs : szc P t = some 1) (hlt : o < cs.size) (hD : b ∈ D)
    (h : ∀ w', Hp S w0 w' (L.set n (some b, T, cs.setIfInBounds o v)) → wpPlan P ops.toArray Q r a w') : wpPlan P ops.toArray Q (.s i (Chg D) :: r) a w := by
  refine plan_sk hH ho hg fun w hH => ?_
  have hb := hH.blk n hi
  have hc : v.cells = #[v] := by cases v <;> simp_all [Value.cells, Value.oneCell']
  refine ⟨w.setCell ⟨b, o, none⟩ v, ?_, (Chg.refl D w).setCell (.inr hD) v, h _ (hH.store n hi o v)⟩
  have hst : (store (⟨b, o, none⟩ : Addr) v).run P w = .ok () (w.setCell ⟨b, o, none⟩ v) := by
    rw [run_store P w _ v _ h1, hb.cell (Array.getElem?_eq_getElem hlt)]
    simp [hb.free hlt]
  simp [execOp, hx, hy, Instr.storeAt, Instr.sureAddr, storeVar, run_sizeOf hs, hc, storeCells, Addr.add, hst]
theorem Hp.far {S : List Nat} {w0 w w' : World} {L : List Own} (h : Hp S w0 w L) (i : Nat) {D : List Nat} {b : Nat} {t : TypeId} {cs : Array Value} (hi : L[i]? = some (some b, t, cs)) (hc : Chg D w w') (hD : b ∉ D) : Blk w' b t cs := hc.blk (h.blk i hi) hD
theorem qr_loadE {D : TypeDesc} {b o n : Nat} {cs : Array Value} (vs : Array Value) (hx : a.eval x = PT b o) (hb : Blk w b T cs) (hu : P.underlying t = some D) (hD : isAggD D = true) (hs : szc P t = some n) (hn : o + n ≤ cs.size) (he : cs.extract o (o + n) = vs) :
    QRun P ⟨d, .load t x, ty, pos, af, g⟩ a w (.agg vs) := by
  subst he
  exact qr_loadN hx hb hu hD hs hn
end
theorem ext2 (vs : List Value) (o : Nat) (a b : Value) (h : (vs.drop o).take 2 = [a, b]) : vs.toArray.extract o (o + 2) = #[a, b] := by
  rw [List.extract_toArray, List.extract_eq_take_drop, Nat.add_sub_cancel_left, h]
end Go.Proofs.YtmoaddicejohgaaDoor
set_option linter.unusedSimpArgs false
set_option linter.unusedVariables false
set_option maxRecDepth 100000
set_option maxHeartbeats 4000000
namespace Go.Proofs.YtmoaddicejohgaaDoor
open Go
open List (getD_cons_zero getD_cons_succ set_cons_zero set_cons_succ)
theorem cf30 : Callable Tryd.prog 30 := ⟨Tryd.f30, Tryd.func30, by kernel_rfl, by kernel_rfl⟩
theorem cf79 : Callable Tryd.prog 79 := ⟨Tryd.f79, Tryd.func79, by kernel_rfl, by kernel_rfl⟩
theorem zc37 : zeroC Tryd.prog 37 = some #[.string ⟨#[]⟩, .string ⟨#[]⟩, .string ⟨#[]⟩] := by kernel_rfl
theorem zc85 : zeroC Tryd.prog 85 = some #[V64 0, V64 0] := by kernel_rfl
theorem bd30_0_1_2 (x0_0 : ByteArray) (x1_0 : ByteArray) (x2_0 : ByteArray) : ∀ w, (Instr.build 30 [(0, .string x0_0), (1, .string x1_0), (2, .string x2_0)].toArray).run Tryd.prog w = .ok (.agg #[.string x0_0, .string x1_0, .string x2_0]) w := fun w => by kernel_rfl
theorem bd37_0_1_2 (x0_0 : ByteArray) (x1_0 : ByteArray) (x2_0 : ByteArray) : ∀ w, (Instr.build 37 [(0, .string x0_0), (1, .string x1_0), (2, .string x2_0)].toArray).run Tryd.prog w = .ok (.agg #[.string x0_0, .string x1_0, .string x2_0]) w := fun w => by kernel_rfl
theorem bd85_ : ∀ w, (Instr.build 85 [].toArray).run Tryd.prog w = .ok (.agg #[V64 0, V64 0]) w := fun w => by kernel_rfl
theorem bd85_0_1 (x0_0 : UInt64) (x1_0 : UInt64) : ∀ w, (Instr.build 85 [(0, V64 x0_0), (1, V64 x1_0)].toArray).run Tryd.prog w = .ok (.agg #[V64 x0_0, V64 x1_0]) w := fun w => by kernel_rfl
theorem bd89_0_1 (x0_0 : Option Addr) (x1_0 : UInt64) (x1_1 : UInt64) : ∀ w, (Instr.build 89 [(0, .pointer x0_0), (1, .agg #[V64 x1_0, V64 x1_1])].toArray).run Tryd.prog w = .ok (.agg #[.pointer x0_0, V64 x1_0, V64 x1_1]) w := fun w => by kernel_rfl
end Go.Proofs.YtmoaddicejohgaaDoor
set_option linter.unusedSimpArgs false
set_option linter.unusedVariables false
set_option maxRecDepth 100000
set_option maxHeartbeats 4000000
namespace Go.Proofs.YtmoaddicejohgaaDoor
open Go
open List (getD_cons_zero getD_cons_succ set_cons_zero set_cons_succ)
def shaKL : List UInt32 := [1116352408, 1899447441, 3049323471, 3921009573, 961987163, 1508970993, 2453635748, 2870763221, 3624381080, 310598401, 607225278, 1426881987, 1925078388, 2162078206, 2614888103, 3248222580, 3835390401, 4022224774, 264347078, 604807628, 770255983, 1249150122, 1555081692, 1996064986, 2554220882, 2821834349, 2952996808, 3210313671, 3336571891, 3584528711, 113926993, 338241895, 666307205, 773529912, 1294757372, 1396182291, 1695183700, 1986661051, 2177026350, 2456956037, 2730485921, 2820302411, 3259730800, 3345764771, 3516065817, 3600352804, 4094571909, 275423344, 430227734, 506948616, 659060556, 883997877, 958139571, 1322822218, 1537002063, 1747873779, 1955562222, 2024104815, 2227730452, 2361852424, 2428436474, 2756734187, 3204031479, 3329325298]
def shaHL : List UInt32 := [1779033703, 3144134277, 1013904242, 2773480762, 1359893119, 2600822924, 528734635, 1541459225]
def shaK (i : Nat) : UInt32 := shaKL.getD i 0
def shaH (i : Nat) : UInt32 := shaHL.getD i 0
def Cel (w : World) (g n : Nat) (f : Nat → UInt32) : Prop := ∀ i, i < n → w.cell? ⟨g, i, none⟩ = some (V32 (f i))
theorem Cel.chg {w w' : World} {g n : Nat} {f : Nat → UInt32} (h : Cel w g n f) {S : List Nat} (hc : Chg S w w') (hn : g ∉ S) : Cel w' g n f := fun i hi => hc.cell (h i hi) hn
theorem Cel.grow {w w' : World} {g n : Nat} {f : Nat → UInt32} (h : Cel w g n f) (hc : Chg [] w w') : Cel w' g n f := h.chg hc (by simp)
def Tabs (w : World) : Prop := Cel w 0 8 shaH ∧ Cel w 1 64 shaK
theorem Tabs.grow {w w' : World} (h : Tabs w) (hc : Chg [] w w') : Tabs w' := ⟨h.1.grow hc, h.2.grow hc⟩
theorem Tabs.chg {w w' : World} (h : Tabs w) {S : List Nat} (hc : Chg S w w') (h0 : 0 ∉ S) (h1 : 1 ∉ S) : Tabs w' := ⟨h.1.chg hc h0, h.2.chg hc h1⟩
section
variable {P : Program} {a : Act} {w : World} {d : Option Tmp} {ty : TypeId} {pos : String} {af : Array Edge} {g : Option (Nat × Bool)} {x : Operand} {t : TypeId}
theorem qr_cel1 {D : TypeDesc} {b n i : Nat} {f : Nat → UInt32} (h : Cel w b n f) (hx : a.eval x = PT b i) (hu : P.underlying t = some D) (hD : isAggD D = false) (hi : i < n) : QRun P ⟨d, .load t x, ty, pos, af, g⟩ a w (V32 (f i)) := qr_load1 hx hu hD (h i hi)
theorem qr_celN {D : TypeDesc} {b n : Nat} {f : Nat → UInt32} (h : Cel w b n f) (hx : a.eval x = PT b 0) (hu : P.underlying t = some D) (hD : isAggD D = true) (hs : szc P t = some n) : QRun P ⟨d, .load t x, ty, pos, af, g⟩ a w (.agg (arr32 n f)) := .of_l fun w' hw => by
  refine run_ok_value (w := w') ?_
  have hl := run_loadN (P := P) (w := w') (b := b) (o := 0) (cs := arr32 n f) hu hD hs (fun j hj => by rw [Nat.zero_add, (h.grow hw) j hj, arr32_get hj]) (by simp)
  simp only [hx, Instr.loadAt, Instr.sureAddr, Sem.run_bind, Sem.run_pure, Result.andThen_ok]
  rw [hl, Nat.zero_add, show (arr32 n f).extract 0 n = arr32 n f by rw [← arr32_size n f]; simp]
end
def rotS (k : Int) : UInt64 := UInt64.ofNat (k % 18446744073709551616).toNat &&& 31
def rotF (x : UInt32) (k : Int) : UInt32 := (if (rotS k).toNat < 32 then x <<< UInt32.ofNat (rotS k).toNat else 0) ||| (if (32 - rotS k).toNat < 32 then x >>> UInt32.ofNat (32 - rotS k).toNat else 0)
def shaWord (p : Nat → UInt8) (i : Nat) : UInt32 := (p (4 * i)).toUInt32 <<< 24 ||| (p (4 * i + 1)).toUInt32 <<< 16 ||| (p (4 * i + 2)).toUInt32 <<< 8 ||| (p (4 * i + 3)).toUInt32
def shaW (p : Nat → UInt8) (n : Nat) : UInt32 :=
  if n < 16 then shaWord p n
  else shaW p (n - 16) + (rotF (shaW p (n - 15)) (-7) ^^^ rotF (shaW p (n - 15)) (-18) ^^^ shaW p (n - 15) >>> 3) + shaW p (n - 7) + (rotF (shaW p (n - 2)) (-17) ^^^ rotF (shaW p (n - 2)) (-19) ^^^ shaW p (n - 2) >>> 10)
termination_by n
decreasing_by all_goals omega
theorem shaW_lo (p : Nat → UInt8) {n : Nat} (h : n < 16) : shaW p n = shaWord p n := by rw [shaW, if_pos h]
theorem shaW_hi (p : Nat → UInt8) {n : Nat} (h : ¬ n < 16) : shaW p n = shaW p (n - 16) + (rotF (shaW p (n - 15)) (-7) ^^^ rotF (shaW p (n - 15)) (-18) ^^^ shaW p (n - 15) >>> 3) + shaW p (n - 7) + (rotF (shaW p (n - 2)) (-17) ^^^ rotF (shaW p (n - 2)) (-19) ^^^ shaW p (n - 2) >>> 10) := by
  rw [shaW, if_neg h]
def shaT (s : Nat → UInt32) (k x : UInt32) : UInt32 := s 7 + (rotF (s 4) (-6) ^^^ rotF (s 4) (-11) ^^^ rotF (s 4) (-25)) + (s 6 ^^^ s 4 &&& (s 5 ^^^ s 6)) + k + x
def shaU (s : Nat → UInt32) : UInt32 := rotF (s 0) (-2) ^^^ rotF (s 0) (-13) ^^^ rotF (s 0) (-22)
def shaM (s : Nat → UInt32) : UInt32 := s 0 &&& s 1 ||| s 2 &&& (s 0 ||| s 1)
def shaR (r w : Nat → UInt32) : Nat → Nat → UInt32
  | 0 => r
  | n + 1 => fun j => if j = 0 then shaT (shaR r w n) (shaK n) (w n) + (shaU (shaR r w n) + shaM (shaR r w n)) else if j = 4 then shaR r w n 3 + shaT (shaR r w n) (shaK n) (w n) else shaR r w n (j - 1)
def shaB (r : Nat → UInt32) (p : Nat → UInt8) (j : Nat) : UInt32 := r j + shaR r (shaW p) 64 j
theorem rot_calls (x : UInt32) (k : Int) (w : World) : Ret Tryd.prog 79 #[V32 x, I64 k] w fun v w' => v = V32 (rotF x k) ∧ Chg [] w w' := by
 refine Ret.enter Tryd.func79 rfl ?_
 simp only [Tryd.ntmps79, fe, Nat.reduceAdd, Nat.reduceSub]
 have hH := Hp.start [] w
 refine wp_seq_k ?_
 intro K1 hK1
 refine wrt [.p 0] ?_
 refine pa ?_;simp only [nf]
 refine plan_nil hH ?_
 clear hH
 intro w2 hH
 refine hK1 _ _ ?_
 (try clear hK1 K1)
 refine wp_seq_k ?_
 intro K3 hK3
 refine wrt [.p 0, .p 1, .p 2, .p 3] ?_
 refine pm ?_;simp only [nf]
 refine pp rfl rfl (pr_conv rfl (by first | exact cnv_n_u64 Tryd.underlying3 Tryd.underlying71 | exact cnv_i_u64 Tryd.underlying3 Tryd.underlying71)) ?_;simp only [nf]
 refine pp rfl rfl (pr_bin rfl rfl (bin_and_u64 _ 31)) ?_;simp only [nf]
 refine pa ?_;simp only [nf]
 refine plan_nil hH ?_
 clear hH
 intro w4 hH
 refine hK3 _ _ ?_
 (try clear hK3 K3)
 refine wp_seq_k ?_
 intro K5 hK5
 refine wrt [.p 0, .p 1, .p 2, .p 3, .p 4, .p 5, .p 6, .p 7, .p 8] ?_
 refine pm (pm ?_);simp only [nf]
 refine pp rfl rfl (pr_bin rfl rfl (bin_shl_u32 _ _ _)) ?_;simp only [nf]
 refine pm (pm ?_);simp only [nf]
 refine pp rfl rfl (pr_bin rfl rfl (bin_sub_u64 32 _)) ?_;simp only [nf]
 refine pp rfl rfl (pr_bin rfl rfl (bin_shr_u32 _ _ _)) ?_;simp only [nf]
 refine pp rfl rfl (pr_bin rfl rfl (bin_or_u32 _ _)) ?_;simp only [nf]
 refine pa ?_;simp only [nf]
 refine plan_nil hH ?_
 clear hH
 intro w6 hH
 refine hK5 _ _ ?_
 (try clear hK5 K5)
 refine wp_ret ?_
 (try simp only [Exit.then, Exit.inBlock, ↓reduceIte, Nat.reduceEqDiff])
 refine BP.ret1 rfl rfl ?_
 exact ⟨rfl, hH.chg⟩
theorem list8 (f : Nat → UInt32) (q : Nat) (h : q < 8) : [f 0, f 1, f 2, f 3, f 4, f 5, f 6, f 7].getD q 0 = f q := by
  have : q = 0 ∨ q = 1 ∨ q = 2 ∨ q = 3 ∨ q = 4 ∨ q = 5 ∨ q = 6 ∨ q = 7 := by omega
  rcases this with rfl | rfl | rfl | rfl | rfl | rfl | rfl | rfl <;> rfl
theorem shamix_calls (r : Nat → UInt32) (v : Value) (l : List UInt8) (w : World) (hT : Tabs w) (hv : Sl w v l) (h64 : 64 ≤ l.length) : Ret Tryd.prog 76 #[.agg (arr32 8 r), v] w fun v' w' => v' = .agg (arr32 8 (shaB r (fun i => l.getD i 0))) ∧ Chg [] w w' := by
 refine Ret.enter Tryd.func76 rfl ?_
 simp only [Tryd.ntmps76, fe, Nat.reduceAdd, Nat.reduceSub]
 have hH := Hp.start [] w
 refine wp_seq_k ?_
 intro K1 hK1
 refine wrt [.x 0, .x 1] ?_
 refine plan_box rfl rfl hH rfl ?_
 clear hH
 intro b2 w3 hH
 (try simp only [nf, nh, Value.cells, arrB_set] at hH ⊢)
 refine plan_alloc rfl rfl hH zc125 ?_
 clear hH
 intro b4 w5 hH
 (try simp only [nf, nh, Value.cells, arrB_set] at hH ⊢)
 refine plan_nil hH ?_
 clear hH
 intro w6 hH
 refine hK1 _ _ ?_
 (try clear hK1 K1)
 refine wp_seq_k ?_
 intro K7 hK7
 refine wrt [.x 0] ?_
 refine plan_alloc rfl rfl hH zc133 ?_
 clear hH
 intro b8 w9 hH
 (try simp only [nf, nh, Value.cells, arrB_set] at hH ⊢)
 refine plan_nil hH ?_
 clear hH
 intro w10 hH
 refine hK7 _ _ ?_
 (try clear hK7 K7)
 refine wp_seq_k ?_
 intro K11 hK11
 refine wp_seq_k ?_
 intro K12 hK12
 refine wrt [.p 0] ?_
 refine pk 0 ?_;simp only [nf]
 refine plan_nil hH ?_
 clear hH
 intro w13 hH
 refine hK12 _ _ ?_
 (try clear hK12 K12)
 refine wp_block ?_
 obtain ⟨kc14, hkc15, hN⟩ := hH.name 1 rfl
 replace hH := hN; clear hN; simp only [List.set_cons_zero, List.set_cons_succ] at hH
 refine wp_loopT [23] [6, 7, 8, 24, 25, 26, 27, 28, 29, 30, 31, 32, 33, 34, 35, 36, 37, 38, 39, 40, 41, 42, 43, 44, 45, 46, 47, 48, 49, 50, 51, 52, 53, 54, 55, 56, 57, 58, 59, 60, 61, 62, 63, 64, 65, 66, 67, 68, 69, 70, 71, 72, 73, 74, 75, 76, 77, 78, 79, 80, 81, 82, 83, 84, 85, 86, 87, 88, 89, 90, 91, 92, 93, 94, 95, 96, 97, 98, 99, 100, 101, 102] (fun (n16 : Nat) (vs : List Value) (w' : World) => ∃ (i : Nat), vs = [I64 (i : Nat)] ∧ Hp [] w w' [(some b2, 125, arr32 8 r), (some b4, 125, kc14), (some b8, 133, arr32 64 fun j => if j < i then shaW (fun i => l.getD i 0) j else 0)] ∧ n16 = 64 - i ∧ i ≤ 64) (64 - 0) (by kernel_rfl) ?_ ?_
 ·
  simp only [ga]
  refine ⟨0, rfl, ?_, rfl, ?_⟩
  ·
   exact hH.say 2 rfl (arr32_congr fun j hj => by rw [if_neg (by omega)])
  · first | omega | (omega)
 clear hH
 intro n16 vs17 w18 hR19 d0
 obtain ⟨i, rfl, hH, hn20, hf21⟩ := hR19
 simp only [putAll, putD, List.set_cons_zero, List.set_cons_succ, Nat.zero_add, Nat.reduceAdd]
 subst hkc15
 refine wp_seq_k ?_
 intro K22 hK22
 refine wrt [.p 0] ?_
 refine pp rfl rfl (pr_bin rfl rfl (by first | exact bin_lss_n (n := 64)  | exact bin_lss_i)) ?_;simp only [nf]
 refine plan_nil hH ?_
 clear hH
 intro w23 hH
 refine hK22 _ _ ?_
 (try clear hK22 K22)
 refine wp_seq_k ?_
 intro K24 hK24
 refine wp_cond_split rfl (fun hc25 => ?_) (fun hc25 => ?_)
 ·
  (try simp only [cnd] at hc25)
  refine wp_skip ?_
  refine hK24 _ _ ?_
  (try clear hK24 K24)
  refine wp_seq_k ?_
  intro K26 hK26
  refine wp_block ?_
  refine wp_seq_k ?_
  intro K27 hK27
  refine wrt [.p 0, .p 1] ?_
  refine pm (pa ?_);simp only [nf]
  refine plan_nil hH ?_
  clear hH
  intro w28 hH
  refine hK27 _ _ ?_
  (try clear hK27 K27)
  refine wp_seq_k ?_
  intro K29 hK29
  refine wp_seq_k ?_
  intro K30 hK30
  refine wrt [.p 0, .p 1] ?_
  refine pm ?_;simp only [nf]
  refine pp rfl rfl (pr_bin rfl rfl (by first | exact bin_lss_n (n := 16)  | exact bin_lss_i)) ?_;simp only [nf]
  refine plan_nil hH ?_
  clear hH
  intro w31 hH
  refine hK30 _ _ ?_
  (try clear hK30 K30)
  refine wp_cond_split rfl (fun hc32 => ?_) (fun hc32 => ?_)
  ·
   (try simp only [cnd] at hc32)
   refine wp_seq_k ?_
   intro K33 hK33
   refine wrp [.p 0, .p 1, .p 2, .p 3, .p 4, .p 8, .p 9, .p 10, .p 11, .p 12, .p 17, .p 18, .p 19, .p 20, .p 21, .p 26, .p 27, .p 28, .p 29, .p 30, .q 5, .p 6, .p 7, .q 13, .p 14, .p 15, .p 16, .q 22, .p 23, .p 24, .p 25, .q 31, .p 32, .p 33, .p 34, .e 35] ?_
   refine pm (pm (pm ?_));simp only [nf]
   refine pp rfl rfl (pr_bin rfl rfl (by first | exact bin_mul_n (m := 4) (by omega) | exact bin_mul_i (by omega) (by omega))) ?_;simp only [nf]
   refine pp rfl rfl (pr_idx_Sl (hv.chg hH.chg) rfl rfl Tryd.underlying22 sz5 (by omega)) ?_;simp only [nf]
   refine pm (pm ?_);simp only [nf]
   refine pp rfl rfl (pr_bin rfl rfl (by first | exact bin_mul_n (m := 4) (by omega) | exact bin_mul_i (by omega) (by omega))) ?_;simp only [nf]
   refine pp rfl rfl (pr_bin rfl rfl (by first | exact bin_add_n (n := 1) (by omega) | exact bin_add_i (by omega) (by omega))) ?_;simp only [nf]
   refine pp rfl rfl (pr_idx_Sl (hv.chg hH.chg) rfl rfl Tryd.underlying22 sz5 (by omega)) ?_;simp only [nf]
   refine pm (pm ?_);simp only [nf]
   refine pp rfl rfl (pr_bin rfl rfl (by first | exact bin_mul_n (m := 4) (by omega) | exact bin_mul_i (by omega) (by omega))) ?_;simp only [nf]
   refine pp rfl rfl (pr_bin rfl rfl (by first | exact bin_add_n (n := 2) (by omega) | exact bin_add_i (by omega) (by omega))) ?_;simp only [nf]
   refine pp rfl rfl (pr_idx_Sl (hv.chg hH.chg) rfl rfl Tryd.underlying22 sz5 (by omega)) ?_;simp only [nf]
   refine pm (pm ?_);simp only [nf]
   refine pp rfl rfl (pr_bin rfl rfl (by first | exact bin_mul_n (m := 4) (by omega) | exact bin_mul_i (by omega) (by omega))) ?_;simp only [nf]
   refine pp rfl rfl (pr_bin rfl rfl (by first | exact bin_add_n (n := 3) (by omega) | exact bin_add_i (by omega) (by omega))) ?_;simp only [nf]
   refine pp rfl rfl (pr_idx_Sl (hv.chg hH.chg) rfl rfl Tryd.underlying22 sz5 (by omega)) ?_;simp only [nf]
   refine pq rfl rfl (qr_load1 rfl Tryd.underlying5 rfl (Sl.cell (hv.chg hH.chg) (by omega))) ?_;simp only [nf]
   refine pp rfl rfl (pr_conv rfl (cnv_u8_u32 _ Tryd.underlying5 Tryd.underlying113)) ?_;simp only [nf]
   refine pp rfl rfl (pr_bin rfl rfl (bin_shlc_u32 24 24 (by decide) rfl _)) ?_;simp only [nf]
   refine pq rfl rfl (qr_load1 rfl Tryd.underlying5 rfl (Sl.cell (hv.chg hH.chg) (by omega))) ?_;simp only [nf]
   refine pp rfl rfl (pr_conv rfl (cnv_u8_u32 _ Tryd.underlying5 Tryd.underlying113)) ?_;simp only [nf]
   refine pp rfl rfl (pr_bin rfl rfl (bin_shlc_u32 16 16 (by decide) rfl _)) ?_;simp only [nf]
   refine pp rfl rfl (pr_bin rfl rfl (bin_or_u32 _ _)) ?_;simp only [nf]
   refine pq rfl rfl (qr_load1 rfl Tryd.underlying5 rfl (Sl.cell (hv.chg hH.chg) (by omega))) ?_;simp only [nf]
   refine pp rfl rfl (pr_conv rfl (cnv_u8_u32 _ Tryd.underlying5 Tryd.underlying113)) ?_;simp only [nf]
   refine pp rfl rfl (pr_bin rfl rfl (bin_shlc_u32 8 8 (by decide) rfl _)) ?_;simp only [nf]
   refine pp rfl rfl (pr_bin rfl rfl (bin_or_u32 _ _)) ?_;simp only [nf]
   refine pq rfl rfl (qr_load1 rfl Tryd.underlying5 rfl (Sl.cell (hv.chg hH.chg) (by omega))) ?_;simp only [nf]
   refine pp rfl rfl (pr_conv rfl (cnv_u8_u32 _ Tryd.underlying5 Tryd.underlying113)) ?_;simp only [nf]
   refine pp rfl rfl (pr_bin rfl rfl (bin_or_u32 _ _)) ?_;simp only [nf]
   refine pp rfl rfl (pr_idxA1 rfl rfl Tryd.underlying133 sz113 (by omega)) ?_;simp only [nf]
   refine plan_store1 2 rfl rfl hH rfl rfl rfl rfl sz113 (by simp <;> omega) ?_
   clear hH
   intro w34 hH
   (try simp only [nf, nh, Value.cells, arrB_set] at hH ⊢)
   refine plan_nil hH ?_
   clear hH
   intro w35 hH
   refine hK33 _ _ ?_
   (try clear hK33 K33)
   refine wp_exit ?_
   (try simp only [Exit.then, Exit.inBlock, ↓reduceIte, Nat.reduceEqDiff])
   refine hK26 _ _ ?_
   (try clear hK26 K26)
   refine wrt [.p 0, .p 1] ?_
   refine pp rfl rfl (pr_bin rfl rfl (by first | exact bin_add_n (n := 1) (by omega) | exact bin_add_i (by omega) (by omega))) ?_;simp only [nf]
   refine pm ?_;simp only [nf]
   refine plan_nil hH ?_
   clear hH
   intro w36 hH
   (try simp only [Exit.then, Exit.inBlock, ↓reduceIte, Nat.reduceEqDiff])
   refine ⟨64 - (i + 1), ?_, _, rfl, by kernel_rfl, ?_⟩
   · first | omega | (omega)
   simp only [ga]
   refine ⟨i + 1, rfl, ?_, rfl, ?_⟩
   ·
    exact hH.say 2 rfl (arr32_congr fun j hj => upd_lt (g := shaW (fun i => l.getD i 0)) (z := fun _ => 0) (by rw [shaW_lo _ (by assumption)]; rfl) j)
   · first | omega | (omega)
  ·
   (try simp only [cnd] at hc32)
   refine wp_skip ?_
   refine hK29 _ _ ?_
   (try clear hK29 K29)
   refine wp_seq_k ?_
   intro K37 hK37
   refine wrp [.p 0, .p 1, .p 2, .p 4, .p 5, .p 6, .q 3, .p 8, .q 7, .p 9] ?_
   refine pm ?_;simp only [nf]
   refine pp rfl rfl (pr_bin rfl rfl (by first | exact bin_sub_n (n := 15) (by omega) (by omega) | exact bin_sub_i (by omega) (by omega))) ?_;simp only [nf]
   refine pp rfl rfl (pr_idxA1 rfl rfl Tryd.underlying133 sz113 (by omega)) ?_;simp only [nf]
   refine pm ?_;simp only [nf]
   refine pp rfl rfl (pr_bin rfl rfl (by first | exact bin_sub_n (n := 2) (by omega) (by omega) | exact bin_sub_i (by omega) (by omega))) ?_;simp only [nf]
   refine pp rfl rfl (pr_idxA1 rfl rfl Tryd.underlying133 sz113 (by omega)) ?_;simp only [nf]
   refine pq rfl rfl (qr_load1 rfl Tryd.underlying113 rfl ((hH.blk 2 rfl).cell (arr32_get (by omega)))) ?_;simp only [nf]
   refine pa ?_;simp only [nf]
   refine pq rfl rfl (qr_load1 rfl Tryd.underlying113 rfl ((hH.blk 2 rfl).cell (arr32_get (by omega)))) ?_;simp only [nf]
   refine pa ?_;simp only [nf]
   refine plan_nil hH ?_
   clear hH
   intro w38 hH
   refine hK37 _ _ ?_
   (try clear hK37 K37)
   refine wp_seq_k ?_
   intro K39 hK39
   refine wrt [.p 0, .q 1, .p 2, .q 3, .p 4, .p 5, .p 6, .p 7, .p 8] ?_
   refine pm ?_;simp only [nf]
   refine pq rfl rfl (qr_call cf79 (fun w' hw => rot_calls _ _ w') rfl) ?_;simp only [nf]
   refine pm ?_;simp only [nf]
   refine pq rfl rfl (qr_call cf79 (fun w' hw => rot_calls _ _ w') rfl) ?_;simp only [nf]
   refine pp rfl rfl (pr_bin rfl rfl (bin_xor_u32 _ _)) ?_;simp only [nf]
   refine pm ?_;simp only [nf]
   refine pp rfl rfl (pr_bin rfl rfl (bin_shrc_u32 3 3 (by decide) rfl _)) ?_;simp only [nf]
   refine pp rfl rfl (pr_bin rfl rfl (bin_xor_u32 _ _)) ?_;simp only [nf]
   refine pa ?_;simp only [nf]
   refine plan_nil hH ?_
   clear hH
   intro w40 hH
   refine hK39 _ _ ?_
   (try clear hK39 K39)
   refine wp_seq_k ?_
   intro K41 hK41
   refine wrt [.p 0, .q 1, .p 2, .q 3, .p 4, .p 5, .p 6, .p 7, .p 8] ?_
   refine pm ?_;simp only [nf]
   refine pq rfl rfl (qr_call cf79 (fun w' hw => rot_calls _ _ w') rfl) ?_;simp only [nf]
   refine pm ?_;simp only [nf]
   refine pq rfl rfl (qr_call cf79 (fun w' hw => rot_calls _ _ w') rfl) ?_;simp only [nf]
   refine pp rfl rfl (pr_bin rfl rfl (bin_xor_u32 _ _)) ?_;simp only [nf]
   refine pm ?_;simp only [nf]
   refine pp rfl rfl (pr_bin rfl rfl (bin_shrc_u32 10 10 (by decide) rfl _)) ?_;simp only [nf]
   refine pp rfl rfl (pr_bin rfl rfl (bin_xor_u32 _ _)) ?_;simp only [nf]
   refine pa ?_;simp only [nf]
   refine plan_nil hH ?_
   clear hH
   intro w42 hH
   refine hK41 _ _ ?_
   (try clear hK41 K41)
   refine wrp [.p 0, .p 1, .p 2, .p 3, .p 5, .p 7, .p 8, .p 9, .p 12, .q 4, .p 6, .q 10, .p 11, .p 13, .p 14, .e 15] ?_
   refine pm (pm ?_);simp only [nf]
   refine pp rfl rfl (pr_bin rfl rfl (by first | exact bin_sub_n (n := 16) (by omega) (by omega) | exact bin_sub_i (by omega) (by omega))) ?_;simp only [nf]
   refine pp rfl rfl (pr_idxA1 rfl rfl Tryd.underlying133 sz113 (by omega)) ?_;simp only [nf]
   refine pm (pm ?_);simp only [nf]
   refine pp rfl rfl (pr_bin rfl rfl (by first | exact bin_sub_n (n := 7) (by omega) (by omega) | exact bin_sub_i (by omega) (by omega))) ?_;simp only [nf]
   refine pp rfl rfl (pr_idxA1 rfl rfl Tryd.underlying133 sz113 (by omega)) ?_;simp only [nf]
   refine pm ?_;simp only [nf]
   refine pq rfl rfl (qr_load1 rfl Tryd.underlying113 rfl ((hH.blk 2 rfl).cell (arr32_get (by omega)))) ?_;simp only [nf]
   refine pp rfl rfl (pr_bin rfl rfl (bin_add_u32 _ _)) ?_;simp only [nf]
   refine pq rfl rfl (qr_load1 rfl Tryd.underlying113 rfl ((hH.blk 2 rfl).cell (arr32_get (by omega)))) ?_;simp only [nf]
   refine pp rfl rfl (pr_bin rfl rfl (bin_add_u32 _ _)) ?_;simp only [nf]
   refine pp rfl rfl (pr_bin rfl rfl (bin_add_u32 _ _)) ?_;simp only [nf]
   refine pp rfl rfl (pr_idxA1 rfl rfl Tryd.underlying133 sz113 (by omega)) ?_;simp only [nf]
   refine plan_store1 2 rfl rfl hH rfl rfl rfl rfl sz113 (by simp <;> omega) ?_
   clear hH
   intro w43 hH
   (try simp only [nf, nh, Value.cells, arrB_set] at hH ⊢)
   refine plan_nil hH ?_
   clear hH
   intro w44 hH
   refine hK26 _ _ ?_
   (try clear hK26 K26)
   refine wrt [.p 0, .p 1] ?_
   refine pp rfl rfl (pr_bin rfl rfl (by first | exact bin_add_n (n := 1) (by omega) | exact bin_add_i (by omega) (by omega))) ?_;simp only [nf]
   refine pm ?_;simp only [nf]
   refine plan_nil hH ?_
   clear hH
   intro w45 hH
   (try simp only [Exit.then, Exit.inBlock, ↓reduceIte, Nat.reduceEqDiff])
   refine ⟨64 - (i + 1), ?_, _, rfl, by kernel_rfl, ?_⟩
   · first | omega | (omega)
   simp only [ga]
   refine ⟨i + 1, rfl, ?_, rfl, ?_⟩
   ·
    exact hH.say 2 rfl (arr32_congr fun j hj => upd_lt (g := shaW (fun i => l.getD i 0)) (z := fun _ => 0) (by
      simp only [show i - 16 < i by omega, show i - 15 < i by omega, show i - 7 < i by omega, show i - 2 < i by omega, if_true]
      exact (shaW_hi _ (by omega)).symm) j)
   · first | omega | (omega)
 ·
  (try simp only [cnd] at hc25)
  obtain rfl : i = 64 := by omega
  replace hH := hH.say 2 rfl (arr32_congr (g := shaW (fun i => l.getD i 0)) fun j hj => if_pos hj)
  simp only [set_cons_zero, set_cons_succ] at hH
  refine wp_exit ?_
  (try simp only [Exit.then, Exit.inBlock, ↓reduceIte, Nat.reduceEqDiff])
  refine hK11 _ _ ?_
  (try clear hK11 K11)
  refine wp_seq_k ?_
  intro K46 hK46
  refine wrp [.p 0, .p 2, .p 4, .p 6, .p 8, .p 10, .p 12, .p 14, .q 1, .p 16, .q 3, .p 17, .q 5, .p 18, .q 7, .p 19, .q 9, .p 20, .q 11, .p 21, .q 13, .p 22, .q 15, .p 23] ?_
  refine pp rfl rfl (pr_idxA1 (i := 0) rfl rfl Tryd.underlying125 sz113 (by omega)) ?_;simp only [nf]
  refine pp rfl rfl (pr_idxA1 (i := 1) rfl rfl Tryd.underlying125 sz113 (by omega)) ?_;simp only [nf]
  refine pp rfl rfl (pr_idxA1 (i := 2) rfl rfl Tryd.underlying125 sz113 (by omega)) ?_;simp only [nf]
  refine pp rfl rfl (pr_idxA1 (i := 3) rfl rfl Tryd.underlying125 sz113 (by omega)) ?_;simp only [nf]
  refine pp rfl rfl (pr_idxA1 (i := 4) rfl rfl Tryd.underlying125 sz113 (by omega)) ?_;simp only [nf]
  refine pp rfl rfl (pr_idxA1 (i := 5) rfl rfl Tryd.underlying125 sz113 (by omega)) ?_;simp only [nf]
  refine pp rfl rfl (pr_idxA1 (i := 6) rfl rfl Tryd.underlying125 sz113 (by omega)) ?_;simp only [nf]
  refine pp rfl rfl (pr_idxA1 (i := 7) rfl rfl Tryd.underlying125 sz113 (by omega)) ?_;simp only [nf]
  refine pq rfl rfl (qr_load1 rfl Tryd.underlying113 rfl ((hH.blk 0 rfl).cell (arr32_get (by omega)))) ?_;simp only [nf]
  refine pa ?_;simp only [nf]
  refine pq rfl rfl (qr_load1 rfl Tryd.underlying113 rfl ((hH.blk 0 rfl).cell (arr32_get (by omega)))) ?_;simp only [nf]
  refine pa ?_;simp only [nf]
  refine pq rfl rfl (qr_load1 rfl Tryd.underlying113 rfl ((hH.blk 0 rfl).cell (arr32_get (by omega)))) ?_;simp only [nf]
  refine pa ?_;simp only [nf]
  refine pq rfl rfl (qr_load1 rfl Tryd.underlying113 rfl ((hH.blk 0 rfl).cell (arr32_get (by omega)))) ?_;simp only [nf]
  refine pa ?_;simp only [nf]
  refine pq rfl rfl (qr_load1 rfl Tryd.underlying113 rfl ((hH.blk 0 rfl).cell (arr32_get (by omega)))) ?_;simp only [nf]
  refine pa ?_;simp only [nf]
  refine pq rfl rfl (qr_load1 rfl Tryd.underlying113 rfl ((hH.blk 0 rfl).cell (arr32_get (by omega)))) ?_;simp only [nf]
  refine pa ?_;simp only [nf]
  refine pq rfl rfl (qr_load1 rfl Tryd.underlying113 rfl ((hH.blk 0 rfl).cell (arr32_get (by omega)))) ?_;simp only [nf]
  refine pa ?_;simp only [nf]
  refine pq rfl rfl (qr_load1 rfl Tryd.underlying113 rfl ((hH.blk 0 rfl).cell (arr32_get (by omega)))) ?_;simp only [nf]
  refine pa ?_;simp only [nf]
  refine plan_nil hH ?_
  clear hH
  intro w47 hH
  refine hK46 _ _ ?_
  (try clear hK46 K46)
  refine wp_seq_k ?_
  intro K48 hK48
  refine wp_seq_k ?_
  intro K49 hK49
  refine wrt [.q 0, .p 1] ?_
  refine pq rfl rfl (qr_loadW rfl (hH.blk 2 rfl) Tryd.underlying133 rfl sz133 (by simp)) ?_;simp only [nf]
  refine pk 0 ?_;simp only [nf]
  refine plan_nil hH ?_
  clear hH
  intro w50 hH
  refine hK49 _ _ ?_
  (try clear hK49 K49)
  refine wp_block ?_
  obtain ⟨kc51, hkc52, hN⟩ := hH.name 1 rfl
  replace hH := hN; clear hN; simp only [List.set_cons_zero, List.set_cons_succ] at hH
  refine wp_loopT [9, 10, 11, 12, 13, 14, 15, 16, 120] [17, 18, 19, 20, 121, 122, 123, 124, 125, 126, 127, 128, 129, 130, 131, 132, 133, 134, 135, 136, 137, 138, 139, 140, 141, 142, 143, 144, 145, 146, 147, 148, 149, 150, 151, 152, 153, 154, 155, 156, 157, 158, 159, 160, 161, 162, 163, 164, 165, 166, 167, 168, 169, 170, 171, 172, 173, 174, 175, 176, 177, 178] (fun (n53 : Nat) (vs : List Value) (w' : World) => ∃ (n : Nat), vs = [V32 (shaR r (shaW (fun i => l.getD i 0)) n 0), V32 (shaR r (shaW (fun i => l.getD i 0)) n 1), V32 (shaR r (shaW (fun i => l.getD i 0)) n 2), V32 (shaR r (shaW (fun i => l.getD i 0)) n 3), V32 (shaR r (shaW (fun i => l.getD i 0)) n 4), V32 (shaR r (shaW (fun i => l.getD i 0)) n 5), V32 (shaR r (shaW (fun i => l.getD i 0)) n 6), V32 (shaR r (shaW (fun i => l.getD i 0)) n 7), I64 (n : Nat)] ∧ Hp [] w w' [(some b2, 125, arr32 8 r), (some b4, 125, kc51), (some b8, 133, arr32 64 (shaW (fun i => l.getD i 0)))] ∧ n53 = 64 - n ∧ n ≤ 64) (64 - 0) (by kernel_rfl) ?_ ?_
  ·
   simp only [ga]
   refine ⟨0, rfl, ?_, rfl, ?_⟩
   ·
    exact hH
   · first | omega | (omega)
  clear hH
  intro n53 vs54 w55 hR56 d1
  obtain ⟨n, rfl, hH, hn57, hf58⟩ := hR56
  simp only [putAll, putD, List.set_cons_zero, List.set_cons_succ, Nat.zero_add, Nat.reduceAdd]
  subst hkc52
  refine wp_seq_k ?_
  intro K59 hK59
  refine wrt [.p 0] ?_
  refine pp rfl rfl (pr_bin rfl rfl (by first | exact bin_lss_n (n := 64)  | exact bin_lss_i)) ?_;simp only [nf]
  refine plan_nil hH ?_
  clear hH
  intro w60 hH
  refine hK59 _ _ ?_
  (try clear hK59 K59)
  refine wp_seq_k ?_
  intro K61 hK61
  refine wp_cond_split rfl (fun hc62 => ?_) (fun hc62 => ?_)
  ·
   (try simp only [cnd] at hc62)
   refine wp_skip ?_
   refine hK61 _ _ ?_
   (try clear hK61 K61)
   refine wp_seq_k ?_
   intro K63 hK63
   refine wp_block ?_
   refine wp_seq_k ?_
   intro K64 hK64
   refine wrt [.p 0, .p 1, .p 2, .p 3] ?_
   refine pm ?_;simp only [nf]
   refine pp rfl rfl (pr_index_arr rfl rfl Tryd.underlying133 sz113 (notAgg Tryd.underlying113 rfl) (by first | omega | exact lt_u8 _) (arr32_get (by first | omega | exact lt_u8 _))) ?_;simp only [nf]
   refine pa (pa ?_);simp only [nf]
   refine plan_nil hH ?_
   clear hH
   intro w65 hH
   refine hK64 _ _ ?_
   (try clear hK64 K64)
   refine wp_seq_k ?_
   intro K66 hK66
   refine wrp [.p 0, .p 1, .p 3, .p 6, .p 10, .p 11, .p 12, .p 13, .p 14, .p 15, .p 16, .p 18, .p 19, .p 22, .q 2, .q 4, .p 5, .q 7, .p 8, .p 9, .p 17, .q 20, .p 21, .p 23, .p 24] ?_
   refine pm (pm (pm (pm (pm (pm ?_)))));simp only [nf]
   refine pm (pm ?_);simp only [nf]
   refine pp rfl rfl (pr_bin rfl rfl (bin_xor_u32 _ _)) ?_;simp only [nf]
   refine pp rfl rfl (pr_bin rfl rfl (bin_and_u32 _ _)) ?_;simp only [nf]
   refine pp rfl rfl (pr_bin rfl rfl (bin_xor_u32 _ _)) ?_;simp only [nf]
   refine pm ?_;simp only [nf]
   refine pp rfl rfl (pr_idxA1 rfl rfl Tryd.underlying133 sz113 (by omega)) ?_;simp only [nf]
   refine pm ?_;simp only [nf]
   refine pq rfl rfl (qr_call cf79 (fun w' hw => rot_calls _ _ w') rfl) ?_;simp only [nf]
   refine pq rfl rfl (qr_call cf79 (fun w' hw => rot_calls _ _ w') rfl) ?_;simp only [nf]
   refine pp rfl rfl (pr_bin rfl rfl (bin_xor_u32 _ _)) ?_;simp only [nf]
   refine pq rfl rfl (qr_call cf79 (fun w' hw => rot_calls _ _ w') rfl) ?_;simp only [nf]
   refine pp rfl rfl (pr_bin rfl rfl (bin_xor_u32 _ _)) ?_;simp only [nf]
   refine pp rfl rfl (pr_bin rfl rfl (bin_add_u32 _ _)) ?_;simp only [nf]
   refine pp rfl rfl (pr_bin rfl rfl (bin_add_u32 _ _)) ?_;simp only [nf]
   refine pq rfl rfl (qr_cel1 (hT.grow hH.chg).2 rfl Tryd.underlying113 rfl (by omega)) ?_;simp only [nf]
   refine pp rfl rfl (pr_bin rfl rfl (bin_add_u32 _ _)) ?_;simp only [nf]
   refine pp rfl rfl (pr_bin rfl rfl (bin_add_u32 _ _)) ?_;simp only [nf]
   refine pa ?_;simp only [nf]
   refine plan_nil hH ?_
   clear hH
   intro w67 hH
   refine hK66 _ _ ?_
   (try clear hK66 K66)
   refine wp_seq_k ?_
   intro K68 hK68
   refine wrt [.p 0, .q 1, .p 2, .q 3, .p 4, .p 5, .q 6, .p 7, .p 8, .p 9, .p 10, .p 11, .p 12, .p 13, .p 14, .p 15, .p 16, .p 17, .p 18] ?_
   refine pm ?_;simp only [nf]
   refine pq rfl rfl (qr_call cf79 (fun w' hw => rot_calls _ _ w') rfl) ?_;simp only [nf]
   refine pm ?_;simp only [nf]
   refine pq rfl rfl (qr_call cf79 (fun w' hw => rot_calls _ _ w') rfl) ?_;simp only [nf]
   refine pp rfl rfl (pr_bin rfl rfl (bin_xor_u32 _ _)) ?_;simp only [nf]
   refine pm ?_;simp only [nf]
   refine pq rfl rfl (qr_call cf79 (fun w' hw => rot_calls _ _ w') rfl) ?_;simp only [nf]
   refine pp rfl rfl (pr_bin rfl rfl (bin_xor_u32 _ _)) ?_;simp only [nf]
   refine pm (pm ?_);simp only [nf]
   refine pp rfl rfl (pr_bin rfl rfl (bin_and_u32 _ _)) ?_;simp only [nf]
   refine pm (pm (pm ?_));simp only [nf]
   refine pp rfl rfl (pr_bin rfl rfl (bin_or_u32 _ _)) ?_;simp only [nf]
   refine pp rfl rfl (pr_bin rfl rfl (bin_and_u32 _ _)) ?_;simp only [nf]
   refine pp rfl rfl (pr_bin rfl rfl (bin_or_u32 _ _)) ?_;simp only [nf]
   refine pp rfl rfl (pr_bin rfl rfl (bin_add_u32 _ _)) ?_;simp only [nf]
   refine pa ?_;simp only [nf]
   refine plan_nil hH ?_
   clear hH
   intro w69 hH
   refine hK68 _ _ ?_
   (try clear hK68 K68)
   refine wrt [.p 0, .p 1, .p 2, .p 3, .p 4, .p 5, .p 6, .p 7, .p 8, .p 9, .p 10, .p 11, .p 12, .p 13, .p 14, .p 15, .p 16, .p 17, .p 18, .p 19] ?_
   refine pm (pm ?_);simp only [nf]
   refine pp rfl rfl (pr_bin rfl rfl (bin_add_u32 _ _)) ?_;simp only [nf]
   refine pm (pm (pm (pm (pm ?_))));simp only [nf]
   refine pp rfl rfl (pr_bin rfl rfl (bin_add_u32 _ _)) ?_;simp only [nf]
   refine pm (pm (pm (pa (pa (pa ?_)))));simp only [nf]
   refine pa (pa (pa (pa (pa ?_))));simp only [nf]
   refine plan_nil hH ?_
   clear hH
   intro w70 hH
   refine hK63 _ _ ?_
   (try clear hK63 K63)
   refine wrt [.p 0, .p 1] ?_
   refine pp rfl rfl (pr_bin rfl rfl (by first | exact bin_add_n (n := 1) (by omega) | exact bin_add_i (by omega) (by omega))) ?_;simp only [nf]
   refine pm ?_;simp only [nf]
   refine plan_nil hH ?_
   clear hH
   intro w71 hH
   (try simp only [Exit.then, Exit.inBlock, ↓reduceIte, Nat.reduceEqDiff])
   refine ⟨64 - (n + 1), ?_, _, rfl, by kernel_rfl, ?_⟩
   · first | omega | (omega)
   simp only [ga]
   refine ⟨n + 1, rfl, ?_, rfl, ?_⟩
   ·
    exact hH
   · first | omega | (omega)
  ·
   (try simp only [cnd] at hc62)
   obtain rfl : n = 64 := by omega
   refine wp_exit ?_
   (try simp only [Exit.then, Exit.inBlock, ↓reduceIte, Nat.reduceEqDiff])
   refine hK48 _ _ ?_
   (try clear hK48 K48)
   refine wp_seq_k ?_
   intro K72 hK72
   refine wp_seq_k ?_
   intro K73 hK73
   refine wrt [.p 0, .p 1, .p 2, .p 3, .p 4, .p 5, .p 6, .p 7, .p 8, .p 9] ?_
   refine pm (pm (pm (pm (pm (pm ?_)))));simp only [nf]
   refine pm (pm ?_);simp only [nf]
   refine pp rfl rfl (pr_build (by rfl) (ba125 _ _ _ _ _ _ _ _)) ?_;simp only [nf]
   refine pk 0 ?_;simp only [nf]
   refine plan_nil hH ?_
   clear hH
   intro w74 hH
   refine hK73 _ _ ?_
   (try clear hK73 K73)
   refine wp_block ?_
   obtain ⟨kc75, hkc76, hN⟩ := hH.name 1 rfl
   replace hH := hN; clear hN; simp only [List.set_cons_zero, List.set_cons_succ] at hH
   refine wp_loopT [188] [21, 22, 189, 190, 191, 192, 193, 194, 195, 196, 197, 198] (fun (n77 : Nat) (vs : List Value) (w' : World) => ∃ (q : Nat), vs = [I64 (q : Nat)] ∧ Hp [] w w' [(some b2, 125, arr32 8 fun j => if j < q then shaB r (fun i => l.getD i 0) j else r j), (some b4, 125, kc75), (some b8, 133, arr32 64 (shaW (fun i => l.getD i 0)))] ∧ n77 = 8 - q ∧ q ≤ 8) (8 - 0) (by kernel_rfl) ?_ ?_
   ·
    simp only [ga]
    refine ⟨0, rfl, ?_, rfl, ?_⟩
    ·
     exact hH.say 0 rfl (arr32_congr fun j hj => by rw [if_neg (by omega)])
    · first | omega | (omega)
   clear hH
   intro n77 vs78 w79 hR80 d2
   obtain ⟨q, rfl, hH, hn81, hf82⟩ := hR80
   simp only [putAll, putD, List.set_cons_zero, List.set_cons_succ, Nat.zero_add, Nat.reduceAdd]
   subst hkc76
   refine wp_seq_k ?_
   intro K83 hK83
   refine wrt [.p 0] ?_
   refine pp rfl rfl (pr_bin rfl rfl (by first | exact bin_lss_n (n := 8)  | exact bin_lss_i)) ?_;simp only [nf]
   refine plan_nil hH ?_
   clear hH
   intro w84 hH
   refine hK83 _ _ ?_
   (try clear hK83 K83)
   refine wp_seq_k ?_
   intro K85 hK85
   refine wp_cond_split rfl (fun hc86 => ?_) (fun hc86 => ?_)
   ·
    (try simp only [cnd] at hc86)
    refine wp_skip ?_
    refine hK85 _ _ ?_
    (try clear hK85 K85)
    refine wp_seq_k ?_
    intro K87 hK87
    refine wp_block ?_
    refine wp_seq_k ?_
    intro K88 hK88
    refine wrt [.p 0, .p 1, .p 2, .p 3] ?_
    refine pm ?_;simp only [nf]
    refine pp rfl rfl (pr_index_arr rfl rfl Tryd.underlying125 sz113 (notAgg Tryd.underlying113 rfl) (by first | omega | exact lt_u8 _) (arr32_get (by first | omega | exact lt_u8 _))) ?_;simp only [nf]
    refine pa (pa ?_);simp only [nf]
    refine plan_nil hH ?_
    clear hH
    intro w89 hH
    refine hK88 _ _ ?_
    (try clear hK88 K88)
    refine wrt [.p 0, .p 1, .q 2, .p 3, .p 4, .p 5, .e 6] ?_
    refine pm ?_;simp only [nf]
    refine pp rfl rfl (pr_idxA1 rfl rfl Tryd.underlying125 sz113 (by omega)) ?_;simp only [nf]
    refine pq rfl rfl (qr_load1 rfl Tryd.underlying113 rfl ((hH.blk 0 rfl).cell (arr32_get (by omega)))) ?_;simp only [nf]
    refine pm ?_;simp only [nf]
    refine pp rfl rfl (pr_bin rfl rfl (bin_add_u32 _ _)) ?_;simp only [nf]
    refine pp rfl rfl (pr_idxA1 rfl rfl Tryd.underlying125 sz113 (by omega)) ?_;simp only [nf]
    refine plan_store1 0 rfl rfl hH rfl rfl rfl rfl sz113 (by simp <;> omega) ?_
    clear hH
    intro w90 hH
    (try simp only [nf, nh, Value.cells, arrB_set] at hH ⊢)
    refine plan_nil hH ?_
    clear hH
    intro w91 hH
    refine hK87 _ _ ?_
    (try clear hK87 K87)
    refine wrt [.p 0, .p 1] ?_
    refine pp rfl rfl (pr_bin rfl rfl (by first | exact bin_add_n (n := 1) (by omega) | exact bin_add_i (by omega) (by omega))) ?_;simp only [nf]
    refine pm ?_;simp only [nf]
    refine plan_nil hH ?_
    clear hH
    intro w92 hH
    (try simp only [Exit.then, Exit.inBlock, ↓reduceIte, Nat.reduceEqDiff])
    refine ⟨8 - (q + 1), ?_, _, rfl, by kernel_rfl, ?_⟩
    · first | omega | (omega)
    simp only [ga]
    refine ⟨q + 1, rfl, ?_, rfl, ?_⟩
    ·
     exact hH.say 0 rfl (arr32_congr fun j hj => upd_lt (g := shaB r (fun i => l.getD i 0)) (z := r) (by rw [if_neg (Nat.lt_irrefl _), list8 (shaR r (shaW (fun i => l.getD i 0)) 64) q (by assumption)]; rfl) j)
    · first | omega | (omega)
   ·
    (try simp only [cnd] at hc86)
    refine wp_exit ?_
    (try simp only [Exit.then, Exit.inBlock, ↓reduceIte, Nat.reduceEqDiff])
    refine hK72 _ _ ?_
    (try clear hK72 K72)
    refine wp_seq_k ?_
    intro K93 hK93
    refine wrt [.q 0, .e 1] ?_
    refine pq rfl rfl (qr_loadW rfl (hH.blk 0 rfl) Tryd.underlying125 rfl sz125 (by simp)) ?_;simp only [nf]
    refine plan_storeW 1 rfl rfl hH rfl rfl rfl one_arr32 sz125 (by simp) (by simp) ?_
    clear hH
    intro w94 hH
    (try simp only [nf, nh, Value.cells, arrB_set] at hH ⊢)
    refine plan_nil hH ?_
    clear hH
    intro w95 hH
    refine hK93 _ _ ?_
    (try clear hK93 K93)
    refine wp_ret ?_
    (try simp only [Exit.then, Exit.inBlock, ↓reduceIte, Nat.reduceEqDiff])
    refine BP.retc rfl rfl (hH.blk 1 rfl) Tryd.underlying125 rfl sz125 (by simp) ?_
    obtain rfl : q = 8 := by omega
    exact ⟨by rw [arr32_congr fun i hi => if_pos hi], hH.chg⟩
end Go.Proofs.YtmoaddicejohgaaDoor
set_option linter.unusedSimpArgs false
set_option linter.unusedVariables false
namespace Go.Proofs.YtmoaddicejohgaaDoor
open Go
structure ChgN (N : Nat) (w w' : World) : Prop where
  os : w'.os = w.os
  tape : w'.tape = w.tape
  output : w'.output = w.output
  size : w.heap.size ≤ w'.heap.size
  block : ∀ k, k < N → k < w.heap.size → w'.heap[k]? = w.heap[k]?
theorem ChgN.blk {N : Nat} {w w' : World} (h : ChgN N w w') {b : Nat} {t : TypeId} {cs : Array Value} (hb : Blk w b t cs) (hN : b < N) : Blk w' b t cs := hb.of_heap (h.block b hN hb.lt)
section
variable {P : Program} {ops : List Oper} {Q : Exit → Act → World → Prop} {r : List PStep} {a : Act} {w : World} {i : Nat} {d : Option Tmp} {ty : TypeId} {pos : String} {af : Array Edge} {g : Option (Nat × Bool)} {x y : Operand} {t t' T : TypeId}
  {S : List Nat} {w0 : World} {L : List Own} {N : Nat}
end
section
variable {P : Program} {ops : Array Oper} {Q : Exit → Act → World → Prop} {md : Region.Mode} {E M : List Nat} {R0 : World → World → Prop}
def Pend (P : Program) (md : Region.Mode) (ops : Array Oper) (Q : Exit → Act → World → Prop) (E M : List Nat) (R0 : World → World → Prop) (n : Nat) (l : List Nat) (a : Act) (w : World) : Prop :=
  ∀ (fuel : Nat) (L : Array Bool), Rel ops L l → n ≤ fuel → wpAnyR P md ops Q E M R0 fuel L a w
def QK (Q : Exit → Act → World → Prop) (K : Act → World → Prop) : Exit → Act → World → Prop
  | .normal => K
  | e => Q e
theorem QK.out {K : Act → World → Prop} (h : LetsOut (QK Q K)) : LetsOut Q := h
theorem wpOp_QK {K K' : Act → World → Prop} {i : Nat} {a : Act} {w : World} (h : wpOp P ops (QK Q K) i K' a w) : wpOp P ops Q i K' a w := by
  unfold wpOp at *
  cases hi : ops[i]? with
  | none => rw [hi] at h; exact h
  | some o =>
    rw [hi] at h
    simp only at h ⊢
    split
    · rename_i hw
      rw [if_pos hw] at h
      rcases h with h | h
      · refine .inl ?_
        unfold Oper.wp at *
        generalize (execOp a.eval o).run P w = r at *
        cases r with
        | ok n w' =>
          cases n <;> exact h
        | halt x w' => cases x <;> exact h
      · exact .inr h
    · rename_i hw
      rw [if_neg hw] at h; exact h
def idxs : List PStep → List Nat → List Nat
  | [], l => l
  | s :: r, l => idxs r (s.idx :: l)
def preOK (T : List Row) (E M : List Nat) : List PStep → List Nat → Bool
  | [], _ => true
  | .p i :: r, l => okTake T true E l i && preOK T E M r (i :: l)
  | .q i :: r, l => okTake T false (E ++ M) l i && preOK T E M r (i :: l)
  | .r i _ :: r, l => okTake T false E l i && preOK T E M r (i :: l)
  | .x k :: r, l => readyAt T l k && loneAt l k T 0 && preOK T E M r (k :: l)
  | .s k _ :: r, l => readyAt T l k && loneAt l k T 0 && preOK T E M r (k :: l)
  | .e k :: r, l => readyAt T l k && loneAt l k T 0 && preOK T E M r (k :: l)
theorem anyR_take (hR0 : Far R0) (hsel : Region.noSelect ops = true) (hQ : ∀ c a d v w, Q (.panic c) (a.put d v) w → Q (.panic c) a w) (R : World → World → Prop) (hR : Far R) (pure : Bool) (E' : List Nat) (hE' : ∀ j, (pure = true ∨ E'.contains j = false) → ∀ w w', eff E M R0 j w w' → R w w')
    (i : Nat) (fuel : Nat) (L : Array Bool) (l : List Nat) (a : Act) (w : World) (o : Oper) (v : Value) (hR' : Rel ops L l) (ho : ops[i]? = some o) (hy : Qt P ops o v R w a)
    (hok : okTake (tabOf md ops) pure E' l i = true) (H : wpAnyR P md ops Q E M R0 fuel (L.setIfInBounds i true) (a.put o.dst v) w) : wpAnyR P md ops Q E M R0 (fuel + 1) L a w := by
  simp only [okTake, tab_get ho, Bool.and_eq_true, Bool.not_eq_true'] at hok
  obtain ⟨⟨⟨⟨h0, h1⟩, h2⟩, h3⟩, h4⟩ := hok
  refine wpAnyR_first hR0 hR ho (Region.noSelect_spec hsel) (fun c a w => hQ c a _ _ w) (fun j => (growth i (!pure) E' (tabOf md ops) 0 l).contains j) ?_ fuel L a w ?_ ?_ ?_ hy H
  · intro j oj hoj hji hall
    have := closed_spec _ 0 h3 j _ (tab_get hoj) (by simpa using hji) (subset_row.2 hall)
    simpa using this
  · intro k hk
    rw [hR'.getDf] at hk
    exact growth_mem _ _ _ _ hk
  · intro j oj hoj hji hS hl
    rw [hR'.getDt (lt_of_get hoj)] at hl
    have := freeIn_spec _ 0 h4 j _ (tab_get hoj) (by simpa using hji) (by simpa using hS) (by simpa using hl)
    exact ⟨hE' j (by simpa using this.1), this.2⟩
  · exact (ready_iff hR').2 ⟨h0, o, ho, h1⟩
theorem anyR_only {k : Nat} {L : Array Bool} {l : List Nat} (hR : Rel ops L l) (h1 : readyAt (tabOf md ops) l k = true) (h2 : loneAt l k (tabOf md ops) 0 = true) : (∃ o, ops[k]? = some o) ∧ k ∈ Region.ready md ops L ∧ ∀ j ∈ Region.ready md ops L, j = k := by
  have hrk : ∃ o, ops[k]? = some o ∧ l.contains k = false ∧ subset (rowOf md ops o).after l = true := by
    unfold readyAt at h1
    cases ht : (tabOf md ops)[k]? with
    | none => rw [ht] at h1; cases h1
    | some rr =>
      rw [ht] at h1
      obtain ⟨o, ho, rfl⟩ := tab_get' ht
      simp only [Bool.and_eq_true, Bool.not_eq_true'] at h1
      exact ⟨o, ho, h1.1, h1.2⟩
  obtain ⟨o, ho, hk0, hk1⟩ := hrk
  refine ⟨⟨o, ho⟩, (ready_iff hR).2 ⟨hk0, o, ho, hk1⟩, fun j hj => ?_⟩
  obtain ⟨hj0, oj, hoj, hjs⟩ := (ready_iff hR).1 hj
  have := loneAt_spec _ 0 h2 j _ (tab_get hoj) (by simpa using hj0) hjs
  omega
def lonely (E M : List Nat) : PStep → Bool
  | .x _ => true
  | .s k _ => M.contains k
  | .e k => E.contains k
  | _ => false
theorem step_eff (hR0 : Far R0) {n : Nat} {l : List Nat} {a : Act} {w : World} : ∀ (s : PStep), lonely E M s = true → AllR R0 [s] → wpPlan P ops (QK Q (Pend P md ops Q E M R0 n (s.idx :: l))) [s] a w →
    ∀ w1, Chg [] w w1 → wpOp P ops Q s.idx (fun a' w' => eff E M R0 s.idx w1 w' ∧ Pend P md ops Q E M R0 n (s.idx :: l) a' w') a w1
  | .x k, _, _, h, w1, hw => wpOp_mono (fun a' w' h' => ⟨.grown hR0 h'.1, h'.2 w' (.refl _ _)⟩) (wpOp_QK (h w1 hw))
  | .s k R, hk, hA, h, w1, hw => by
    obtain ⟨rfl, _⟩ := hA
    have hk : M.contains k = true := hk
    exact wpOp_mono (fun a' w' h' => ⟨⟨fun _ => h'.1, fun _ hc => (by have hc : M.contains k = false := hc; rw [hk] at hc; cases hc)⟩, h'.2 w' (.refl _ _)⟩) (wpOp_QK (h w1 hw))
  | .e k, hk, _, h, w1, hw => by
    have hk : E.contains k = true := hk
    exact wpOp_mono (fun a' w' h' => ⟨⟨fun hc => (by have hc : E.contains k = false := hc; rw [hk] at hc; cases hc), fun hc => (by have hc : E.contains k = false := hc; rw [hk] at hc; cases hc)⟩, h' w' (.refl _ _)⟩) (wpOp_QK (h w1 hw))
  | .p _, hk, _, _, _, _ => by cases hk
  | .q _, hk, _, _, _, _ => by cases hk
  | .r _ _, hk, _, _, _, _ => by cases hk
def amongst (l is : List Nat) : List Row → Nat → Bool
  | [], _ => true
  | r :: rs, j => (is.contains j || l.contains j || !subset r.after l) && amongst l is rs (j + 1)
theorem amongst_spec {l is : List Nat} : ∀ (T : List Row) (n : Nat), amongst l is T n = true → ∀ j r, T[j]? = some r → l.contains (n + j) = false → subset r.after l = true → is.contains (n + j) = true
  | [], _, _, j, r, h, _, _ => by simp at h
  | x :: T, n, hc, j, r, h, hl, hs => by
    simp only [amongst, Bool.and_eq_true, Bool.or_eq_true, Bool.not_eq_true'] at hc
    cases j with
    | zero =>
      simp at h; subst h
      simp only [Nat.add_zero] at hl ⊢
      rcases hc.1 with (h1 | h1) | h1
      · exact h1
      · rw [hl] at h1; cases h1
      · rw [hs] at h1; cases h1
    | succ j =>
      have := amongst_spec T (n + 1) hc.2 j r (by simpa using h) (by rw [show n + 1 + j = n + (j + 1) by omega]; exact hl) hs
      rw [show n + (j + 1) = n + 1 + j by omega]; exact this
theorem Pend.fork2 (hR0 : Far R0) {n : Nat} {l : List Nat} {a : Act} {w : World} (s1 s2 : PStep) (c1 : lonely E M s1 = true) (c2 : lonely E M s2 = true) (A1 : AllR R0 [s1]) (A2 : AllR R0 [s2]) (r1 : readyAt (tabOf md ops) l s1.idx = true) (hall : amongst l [s1.idx, s2.idx] (tabOf md ops) 0 = true)
    (h1 : wpPlan P ops (QK Q (Pend P md ops Q E M R0 n (s1.idx :: l))) [s1] a w) (h2 : wpPlan P ops (QK Q (Pend P md ops Q E M R0 n (s2.idx :: l))) [s2] a w) : Pend P md ops Q E M R0 (n + 1) l a w := by
  intro fuel L hR hn
  obtain ⟨fuel, rfl⟩ : ∃ m, fuel = m + 1 := ⟨fuel - 1, by omega⟩
  have hmem : s1.idx ∈ Region.ready md ops L := by
    unfold readyAt at r1
    cases ht : (tabOf md ops)[s1.idx]? with
    | none => rw [ht] at r1; cases r1
    | some rr =>
      rw [ht] at r1
      obtain ⟨o, ho, rfl⟩ := tab_get' ht
      simp only [Bool.and_eq_true, Bool.not_eq_true'] at r1
      exact (ready_iff hR).2 ⟨r1.1, o, ho, r1.2⟩
  intro w1 hw1
  refine ⟨fun h0 => (by rw [h0] at hmem; cases hmem), fun j hj => ?_⟩
  obtain ⟨hj0, oj, hoj, hjs⟩ := (ready_iff hR).1 hj
  have hin := amongst_spec _ 0 hall j _ (tab_get hoj) (by simpa using hj0) hjs
  have hj2 : j = s1.idx ∨ j = s2.idx := by
    have := List.contains_iff_mem.1 hin
    simpa using this
  rcases hj2 with rfl | rfl
  · exact wpOp_mono (fun a' w' h' => ⟨h'.1, h'.2 fuel _ (hR.cons (lt_of_get hoj)) (by omega)⟩) (step_eff hR0 s1 c1 A1 h1 w1 hw1)
  · exact wpOp_mono (fun a' w' h' => ⟨h'.1, h'.2 fuel _ (hR.cons (lt_of_get hoj)) (by omega)⟩) (step_eff hR0 s2 c2 A2 h2 w1 hw1)
theorem Pend.plan (hR0 : Far R0) (hsel : Region.noSelect ops = true) (hQ : ∀ c a d v w, Q (.panic c) (a.put d v) w → Q (.panic c) a w) {n : Nat} : ∀ (pl : List PStep) (l : List Nat) (a : Act) (w : World), AllR R0 pl → (∀ i ∈ effects pl, E.contains i = true) → (∀ i ∈ marked pl, M.contains i = true) →
    preOK (tabOf md ops) E M pl l = true → wpPlan P ops (QK Q (Pend P md ops Q E M R0 n (idxs pl l))) pl a w → Pend P md ops Q E M R0 (n + pl.length) l a w := by
  intro pl
  induction pl with
  | nil => intro l a w _ _ _ _ h; exact h w (.refl _ _)
  | cons s r ih =>
    intro l a w hA hE hM hok h fuel L hR hn
    simp only [List.length_cons] at hn
    obtain ⟨fuel, rfl⟩ : ∃ m, fuel = m + 1 := ⟨fuel - 1, by omega⟩
    cases s with
    | p i =>
      obtain ⟨o, ho, v, hy, hn'⟩ := h
      simp only [preOK, Bool.and_eq_true] at hok
      exact anyR_take hR0 hsel hQ anyW .any true E (fun _ _ _ _ _ => trivial) i fuel L l a w o v hR ho hy hok.1 (ih (i :: l) _ w hA hE hM hok.2 hn' fuel _ (hR.cons (lt_of_get ho)) (by omega))
    | q i =>
      obtain ⟨o, ho, v, hy, hn'⟩ := h
      simp only [preOK, Bool.and_eq_true] at hok
      refine anyR_take hR0 hsel hQ (Chg []) .grown false (E ++ M) (fun j hj w w' he => ?_) i fuel L l a w o v hR ho hy hok.1 (ih (i :: l) _ w hA hE hM hok.2 hn' fuel _ (hR.cons (lt_of_get ho)) (by omega))
      rcases hj with hj | hj
      · cases hj
      · rw [List.contains_eq_mem, decide_eq_false_iff_not, List.mem_append, not_or] at hj
        exact he.2 (by simpa using hj.1) (by simpa using hj.2)
    | r i R =>
      obtain ⟨o, ho, v, hy, hn'⟩ := h
      obtain ⟨rfl, hA⟩ := hA
      simp only [preOK, Bool.and_eq_true] at hok
      refine anyR_take hR0 hsel hQ R hR0 false E (fun j hj w w' he => ?_) i fuel L l a w o v hR ho hy hok.1 (ih (i :: l) _ w hA hE hM hok.2 hn' fuel _ (hR.cons (lt_of_get ho)) (by omega))
      rcases hj with hj | hj
      · cases hj
      · exact he.1 hj
    | x k =>
      simp only [preOK, Bool.and_eq_true] at hok
      obtain ⟨⟨o, ho⟩, hmem, hall⟩ := anyR_only hR hok.1.1 hok.1.2
      intro w1 hw1
      refine ⟨fun h0 => (by rw [h0] at hmem; cases hmem), fun j hj => ?_⟩
      obtain rfl := hall j hj
      exact wpOp_mono (fun a' w' h' => ⟨.grown hR0 h'.1, ih (j :: l) a' w' hA hE hM hok.2 h'.2 fuel _ (hR.cons (lt_of_get ho)) (by omega)⟩) (wpOp_QK (h w1 hw1))
    | s k R =>
      obtain ⟨rfl, hA⟩ := hA
      simp only [preOK, Bool.and_eq_true] at hok
      obtain ⟨⟨o, ho⟩, hmem, hall⟩ := anyR_only hR hok.1.1 hok.1.2
      intro w1 hw1
      refine ⟨fun h0 => (by rw [h0] at hmem; cases hmem), fun j hj => ?_⟩
      obtain rfl := hall j hj
      have hMj := hM j (by simp [marked])
      exact wpOp_mono (fun a' w' h' => ⟨⟨fun _ => h'.1, fun _ hc => (by rw [hMj] at hc; cases hc)⟩, ih (j :: l) a' w' hA hE (fun i hi => hM i (by simp [marked, hi])) hok.2 h'.2 fuel _ (hR.cons (lt_of_get ho)) (by omega)⟩) (wpOp_QK (h w1 hw1))
    | e k =>
      simp only [preOK, Bool.and_eq_true] at hok
      obtain ⟨⟨o, ho⟩, hmem, hall⟩ := anyR_only hR hok.1.1 hok.1.2
      intro w1 hw1
      refine ⟨fun h0 => (by rw [h0] at hmem; cases hmem), fun j hj => ?_⟩
      obtain rfl := hall j hj
      have hEj := hE j (by simp [effects])
      exact wpOp_mono (fun a' w' h' => ⟨⟨fun hc => (by rw [hEj] at hc; cases hc), fun hc => (by rw [hEj] at hc; cases hc)⟩, ih (j :: l) a' w' hA (fun i hi => hE i (by simp [effects, hi])) hM hok.2 h' fuel _ (hR.cons (lt_of_get ho)) (by omega)⟩) (wpOp_QK (h w1 hw1))
theorem Pend.done {n : Nat} {l : List Nat} {a : Act} {w : World} (hok : noneReady l (tabOf md ops) 0 = true) (h : ∀ w1, Chg [] w w1 → Q .normal a w1) : Pend P md ops Q E M R0 n l a w := by
  intro fuel L hR _
  have hr : Region.ready md ops L = [] := by
    apply List.eq_nil_iff_forall_not_mem.2
    intro j hj
    obtain ⟨h0, o, ho, hs⟩ := (ready_iff hR).1 hj
    exact noneReady_spec _ 0 hok j _ (tab_get ho) (by simpa using h0) hs
  cases fuel with
  | zero => exact fun w1 h1 => ⟨hr, h w1 h1⟩
  | succ fuel => exact fun w1 h1 => ⟨fun _ => h w1 h1, by rw [hr]; simp⟩
theorem wp_region_pend {id : Nat} {l : List Oper} {a : Act} {w : World} (E M : List Nat) (R0 : World → World → Prop) (hm : P.follows .mixedOrders = true) (h : Pend P .any l.toArray Q E M R0 l.toArray.size [] a w) : (Code.region id l.toArray true).wp P Q a w :=
  wp_region_any hm (wpAny_of_R _ _ _ _ (wpAnyR.grow (h _ _ Rel.start (Nat.le_refl _)) (Chg.drew (.refl _ _))))
end
end Go.Proofs.YtmoaddicejohgaaDoor
set_option linter.unusedSimpArgs false
set_option linter.unusedVariables false
namespace Go.Proofs.YtmoaddicejohgaaDoor
open Go
def ownO (o : Option Nat) (off n cap : Nat) : Value := .slice (o.map fun b => ⟨b, off, none⟩) n cap
structure OwnD (o : Option Nat) (off n cap : Nat) (cs : Array Value) (l : List UInt8) : Prop where
  le : n ≤ cap
  fit : off + cap ≤ cs.size
  nil : o = none → cap = 0
  len : l.length = n
  at_ : ∀ i (h : i < l.length), cs[off + i]? = some (V8 l[i])
theorem OwnD.start : OwnD none 0 0 0 #[] [] := ⟨Nat.le_refl _, by simp, fun _ => rfl, rfl, fun i h => by simp at h⟩
theorem OwnC.d {o : Option Nat} {n cap : Nat} {cs : Array Value} {l : List UInt8} (h : OwnC o n cap 1 cs (l.map V8)) : OwnD o 0 n cap cs l where
  le := h.le
  fit := by have := h.size; omega
  nil := h.nil
  len := by have := h.len; simpa using this
  at_ i hi := by
    have hl : l.length = n := by have := h.len; simpa using this
    rw [Nat.zero_add, h.at_ i (by omega)]; simp [hi]
theorem OwnD.sl {w : World} {S : List Nat} {w0 : World} {L : List Own} (hH : Hp S w0 w L) (k : Nat) {o : Option Nat} {t off n cap : Nat} {cs : Array Value} {l : List UInt8} (hk : L[k]? = some (o, t, cs)) (h : OwnD o off n cap cs l) : Sl w (ownO o off n cap) l := by
  have hl := h.len
  subst hl
  refine ⟨_, cap, rfl, h.le, fun hne => ?_⟩
  cases o with
  | none =>
    have := h.nil rfl; have := h.le
    exact absurd (List.eq_nil_of_length_eq_zero (by omega)) hne
  | some b => exact ⟨b, off, rfl, fun i hi => (hH.blk k hk).cell (h.at_ i hi)⟩
def cutO (off lo cap : Nat) : Nat := if cap = lo then off else off + lo
theorem OwnD.cutl {o : Option Nat} {off n cap : Nat} {cs : Array Value} {l : List UInt8} (h : OwnD o off n cap cs l) {lo : Nat} (h1 : lo ≤ n) : OwnD o (cutO off lo cap) (n - lo) (cap - lo) cs (l.drop lo) where
  le := by have := h.le; omega
  fit := by have := h.fit; have := h.le; unfold cutO; split <;> omega
  nil e := by have := h.nil e; omega
  len := by rw [List.length_drop, h.len]
  at_ i hi := by
    have hle := h.le
    rw [List.length_drop, h.len] at hi
    have hc : ¬ cap = lo := by omega
    unfold cutO
    rw [if_neg hc, Nat.add_assoc, h.at_ (lo + i) (by rw [h.len]; omega)]
    simp
section
variable {P : Program} {ops : List Oper} {Q : Exit → Act → World → Prop} {r : List PStep} {a : Act} {w : World} {i : Nat} {d : Option Tmp} {ty : TypeId} {pos : String} {af : Array Edge} {g : Option (Nat × Bool)} {x y : Operand} {t t' T : TypeId}
  {S : List Nat} {w0 : World} {L : List Own}
theorem pr_slice_D {k : IntKind} {e : TypeId} {o : Option Nat} {off n cap lo : Nat} {xl : Operand} (hx : a.eval x = ownO o off n cap) (hl : a.eval xl = .int k (lo : Int)) (hu : P.underlying t = some (.slice e)) (hs : szc P e = some 1) (h1 : lo ≤ n) :
    PRun P ⟨d, .slice t x (some xl) none none, ty, pos, af, g⟩ a (ownO o (cutO off lo cap) (n - lo) (cap - lo)) := by
  have := pr_slice_l (d := d) (ty := ty) (pos := pos) (af := af) (g := g) (ad := o.map fun b => ⟨b, off, none⟩) (n := n) (c := cap) hx hl hu hs h1
  have e1 : cutA (o.map fun b => (⟨b, off, none⟩ : Addr)) lo cap 1 = o.map fun b => ⟨b, cutO off lo cap, none⟩ := by
    unfold cutA cutO
    split
    · rfl
    · cases o <;> simp [addr_add]
  rw [e1] at this
  exact this
theorem own_firstD {k : Nat} {o : Option Nat} {e off n cap : Nat} {cs : Array Value} {l : List UInt8} (hH : Hp S w0 w L) (hk : L[k]? = some (o, e, cs)) (hO : OwnD o off n cap cs l) :
    (Builtin.firstCells 1 n (ownO o off n cap)).run P w = .ok (l.map V8).toArray w := by
  have := (OwnD.sl hH k hk hO).src (P := P)
  have h2 := this.2.2.2 w (.refl _ _)
  rw [hO.len] at h2
  exact h2
theorem appendD_run (k : Nat) {o : Option Nat} {off n cap m e : Nat} {cs : Array Value} {l bl : List UInt8} {D : TypeDesc} {vy : Value}
    (hH : Hp S w0 w L) (hk : L[k]? = some (o, e, cs)) (hO : OwnD o off n cap cs l) (hsrc : Src P w vy 1 m (bl.map V8)) (hu : P.underlying t = some (.slice e)) (hu' : P.underlying t' = some D) (hD : (∃ e2, D = .slice e2) ∨ D = .string)
    (hs : szc P e = some 1) (hb : bytesOf P e = some 1) (hz : zeroC P e = some #[V8 0]) (hbd : n + m ≤ 140737488355328) :
    ∃ o' off' cap' cs' w', (Builtin.append_ #[t, t'] ty #[ownO o off n cap, vy]).run P w = .ok (ownO o' off' (n + m) cap') w' ∧ OwnD o' off' (n + m) cap' cs' (l ++ bl) ∧ Hp S w0 w' (L.set k (o', e, cs')) ∧ Chg o.toList w w' ∧ ∀ b, o' = some b → o = some b ∨ w.heap.size ≤ b := by
  obtain ⟨hlen, hnl, hone, hfirst⟩ := hsrc
  have hbts : ∃ inf, P.info? e = some inf ∧ inf.bytes = 1 ∧ inf.size = 1 ∧ ∃ z, inf.zero = some z ∧ z.cells = #[V8 0] := by
    unfold bytesOf at hb
    obtain ⟨inf, hi, hb1⟩ := Option.map_eq_some_iff.1 hb
    unfold szc at hs
    rw [hi] at hs
    unfold zeroC at hz
    rw [hi] at hz
    obtain ⟨z, hz1, hz2⟩ := Option.map_eq_some_iff.1 hz
    exact ⟨inf, hi, hb1, by simpa using hs, z, by simpa using hz1, hz2⟩
  obtain ⟨inf, hinf, hib, his, z, hiz, hzc⟩ := hbts
  have hle := hO.le
  have hfit := hO.fit
  have hll := hO.len
  have hbl : bl.length = m := by simpa using hnl
  by_cases hroom : n + m ≤ cap
  · have hsz : off + n + (bl.map V8).length ≤ cs.size := by rw [List.length_map]; omega
    have hown : OwnD o off (n + m) cap (splice cs (off + n) (bl.map V8).toArray) (l ++ bl) := by
      refine ⟨hroom, by rw [splice_size (by simpa using hsz)]; exact hfit, hO.nil, by rw [List.length_append]; omega, fun j hj => ?_⟩
      rw [splice_get (by simpa using hsz)]
      simp only [List.size_toArray, List.length_map]
      by_cases hjn : j < n
      · rw [if_neg (by omega), hO.at_ j (by omega), List.getElem_append_left (by omega)]
      · rw [List.length_append] at hj
        rw [if_pos ⟨by omega, by omega⟩, List.getElem_append_right (by omega)]
        simp [show off + j - (off + n) = j - n by omega, hll, show j - n < bl.length by omega]
    have hf := hfirst w (.refl _ _)
    cases o with
    | none =>
      have hc0 := hO.nil rfl
      have hm0 : m = 0 := by omega
      have hn0 : n = 0 := by omega
      have hb0 : bl = [] := List.eq_nil_of_length_eq_zero (by omega)
      subst hb0
      subst hm0; subst hn0; subst hc0
      refine ⟨none, off, 0, cs, w, ?_, by simpa using hO, hH.say k hk rfl, .refl _ _, fun b hb => .inl hb⟩
      rcases hD with ⟨e2, rfl⟩ | rfl <;> simp [Builtin.append_, run_underlying hu, run_underlying hu', ownO, sizeOf, typeInfo, hinf, his, hlen, hroom] <;> (have hf' : (Builtin.firstCells 1 0 vy).run P w = .ok #[] w := by simpa using hf) <;> rw [hf'] <;> rfl
    | some b =>
      obtain ⟨w', hr, hB, hoth, hsz', e1, e2, e3⟩ := run_storeCells_blk (P := P) (bl.map V8) 0 (off + n) w cs (hH.blk k hk) (by simpa using hsz) hone
      refine ⟨some b, off, cap, _, w', ?_, hown, ?_, ⟨e1, e2, e3, by omega, fun k' hk' hn => hoth k' (by simpa using hn)⟩, fun b hb => .inl hb⟩
      · have hr' : (storeCells (⟨b, off + n, none⟩ : Addr) (bl.map V8)).run P w = .ok () w' := hr
        rcases hD with ⟨e2, rfl⟩ | rfl <;> simp [Builtin.append_, run_underlying hu, run_underlying hu', ownO, sizeOf, typeInfo, hinf, his, hlen, hroom, hf, addr_add] <;> rw [hr'] <;> rfl
      · refine hH.put k hk ?_ (by simpa using hB) fun k' hk' _ => hoth k' hk'
        refine hH.chg.trans' (T := [b]) ⟨e1, e2, e3, by omega, fun k' hk' hn => hoth k' (by simpa using hn)⟩ ?_
        intro z' hz' hlt
        simp only [List.mem_singleton] at hz'
        subst hz'
        rcases hH.mine k hk with h1 | h1
        · omega
        · exact h1
  · obtain ⟨c, hc, hch⟩ : ∃ c, n + m ≤ c ∧ (Question.appendCap (n + m) cap e).cut (w.tape w.drawn (.appendCap (n + m) cap e)) = c := ⟨_, by simp [Question.cut], rfl⟩
    have hfc : (Question.appendCap (n + m) cap e).forced = false := rfl
    have hd : Chg [] w w.drew := (Chg.refl _ _).drew
    have hf := hfirst w.drew hd
    have hfo := own_firstD (P := P) (hH.call hd) hk hO
    have hgs := growslice_fits (bytes := 1) (show cap < n + m by omega) (by omega)
    have h48 : ¬ (281474976710656 < Builtin.nextslicecap (n + m) cap) := by omega
    have h63 : ¬ (9223372036854775807 < ((n : Int) + (m : Int))) := by omega
    have hzl : (Builtin.zeroCells #[V8 0] (c - (n + m))).size = c - (n + m) := by simp [Builtin.zeroCells]
    refine ⟨some w.drew.heap.size, 0, c, (l.map V8).toArray ++ (bl.map V8).toArray ++ Builtin.zeroCells #[V8 0] (c - (n + m)), w.drew.alloc (.cells ((l.map V8).toArray ++ (bl.map V8).toArray ++ Builtin.zeroCells #[V8 0] (c - (n + m))) e), ?_, ⟨hc, ?_, (by intro h; cases h), by rw [List.length_append]; omega, fun j hj => ?_⟩, ?_, (hd.alloc _).weak (by simp), fun b hb => .inr (by cases hb; exact Nat.le_refl _)⟩
    · rcases hD with ⟨e2, rfl⟩ | rfl <;> simp [Builtin.append_, run_underlying hu, run_underlying hu', ownO, sizeOf, typeInfo, zeroValue, hinf, his, hib, hiz, hlen, hroom, h63, h48, hfc, hch, hzc, newRow]
      all_goals (simp only [ownO] at hfo; rw [hfo]; simp only [Result.andThen_ok]; rw [hf]; simp; congr 2; apply Array.ext'; simp)
    · simp only [Array.size_append, List.size_toArray, hzl, List.length_map]; omega
    · rw [Nat.zero_add, Array.getElem?_append_left (by simp; rw [List.length_append] at hj; omega)]
      have e3 : (l.map V8).toArray ++ (bl.map V8).toArray = ((l ++ bl).map V8).toArray := by simp
      rw [e3, List.getElem?_toArray, List.getElem?_map, List.getElem?_eq_getElem hj]; rfl
    · refine (hH.call hd).turn k hk _ ?_ ?_ ?_ ?_
      · exact hH.chg.trans' (T := []) (hd.alloc _) (by simp)
      · intro b hb'
        cases hb'
        exact ⟨.inl (by have := hH.chg.size; exact this), Blk.new _ _ _⟩
      · intro b hb'; cases hb'; exact .inr (Nat.le_refl _)
      · intro k' _ hlt
        exact RowKit.Below.heap_alloc _ _ _ hlt
theorem plan_appendD (k : Nat) {dst : Tmp} {o : Option Nat} {off n cap m e : Nat} {cs : Array Value} {l bl : List UInt8} {D : TypeDesc} {vy : Value}
    (ho : ops[i]? = some ⟨some dst, .call ⟨.builtin .append, #[x, y], #[t, t']⟩, ty, pos, af, g⟩) (hg : Region.wanted ⟨some dst, .call ⟨.builtin .append, #[x, y], #[t, t']⟩, ty, pos, af, g⟩ (yielded ops.toArray a.tmps) = true)
    (hH : Hp S w0 w L) (hk : L[k]? = some (o, e, cs)) (hO : OwnD o off n cap cs l) (hsrc : ∀ w1, Hp S w0 w1 L → Src P w1 vy 1 m (bl.map V8)) (hx : a.eval x = ownO o off n cap) (hy : a.eval y = vy) (hu : P.underlying t = some (.slice e)) (hu' : P.underlying t' = some D) (hD : (∃ e2, D = .slice e2) ∨ D = .string)
    (hs : szc P e = some 1) (hb : bytesOf P e = some 1) (hz : zeroC P e = some #[V8 0]) (hbd : n + m ≤ 140737488355328)
    (h : ∀ o' off' cap' cs' w', OwnD o' off' (n + m) cap' cs' (l ++ bl) → Hp S w0 w' (L.set k (o', e, cs')) → wpPlan P ops.toArray Q r (a.put (some dst) (ownO o' off' (n + m) cap')) w') : wpPlan P ops.toArray Q (.e i :: r) a w := by
  refine plan_ev hH ho hg fun w hH => ?_
  obtain ⟨o', off', cap', cs', w', hr, hO', hH', _, _⟩ := appendD_run (ty := ty) k hH hk hO (hsrc w hH) hu hu' hD hs hb hz hbd
  refine ⟨_, w', ?_, h o' off' cap' cs' w' hO' hH'⟩
  simp only [execOp, resolve, List.map_toArray, List.map_cons, List.map_nil, hx, hy, invoke, builtin, Sem.run_bind, Sem.run_pure, Result.andThen_ok, hr]
end
end Go.Proofs.YtmoaddicejohgaaDoor
set_option linter.unusedSimpArgs false
set_option linter.unusedVariables false
set_option maxRecDepth 100000
set_option maxHeartbeats 4000000
namespace Go.Proofs.YtmoaddicejohgaaDoor
open Go
open List (getD_cons_zero getD_cons_succ set_cons_zero set_cons_succ)
def dbl (x : UInt8) : UInt8 := x <<< 1 ^^^ x >>> 7 * 27
def sboxL : List UInt8 := [99, 124, 119, 123, 242, 107, 111, 197, 48, 1, 103, 43, 254, 215, 171, 118, 202, 130, 201, 125, 250, 89, 71, 240, 173, 212, 162, 175, 156, 164, 114, 192, 183, 253, 147, 38, 54, 63, 247, 204, 52, 165, 229, 241, 113, 216, 49, 21, 4, 199, 35, 195, 24, 150, 5, 154, 7, 18, 128, 226, 235, 39, 178, 117, 9, 131, 44, 26, 27, 110, 90, 160, 82, 59, 214, 179, 41, 227, 47, 132, 83, 209, 0, 237, 32, 252, 177, 91, 106, 203, 190, 57, 74, 76, 88, 207, 208, 239, 170, 251, 67, 77, 51, 133, 69, 249, 2, 127, 80, 60, 159, 168, 81, 163, 64, 143, 146, 157, 56, 245, 188, 182, 218, 33, 16, 255, 243, 210, 205, 12, 19, 236, 95, 151, 68, 23, 196, 167, 126, 61, 100, 93, 25, 115, 96, 129, 79, 220, 34, 42, 144, 136, 70, 238, 184, 20, 222, 94, 11, 219, 224, 50, 58, 10, 73, 6, 36, 92, 194, 211, 172, 98, 145, 149, 228, 121, 231, 200, 55, 109, 141, 213, 78, 169, 108, 86, 244, 234, 101, 122, 174, 8, 186, 120, 37, 46, 28, 166, 180, 198, 232, 221, 116, 31, 75, 189, 139, 138, 112, 62, 181, 102, 72, 3, 246, 14, 97, 53, 87, 185, 134, 193, 29, 158, 225, 248, 152, 17, 105, 217, 142, 148, 155, 30, 135, 233, 206, 85, 40, 223, 140, 161, 137, 13, 191, 230, 66, 104, 65, 153, 45, 15, 176, 84, 187, 22]
def sbox (n : Nat) : UInt8 := sboxL.getD n 0
def colf (f : Nat → UInt8) (o : Nat) : Nat → UInt8 := fun i =>
  if i = o then f o ^^^ (f o ^^^ f (o + 1) ^^^ f (o + 2) ^^^ f (o + 3) ^^^ dbl (f o ^^^ f (o + 1)))
  else if i = o + 1 then f (o + 1) ^^^ (f o ^^^ f (o + 1) ^^^ f (o + 2) ^^^ f (o + 3) ^^^ dbl (f (o + 1) ^^^ f (o + 2)))
  else if i = o + 2 then f (o + 2) ^^^ (f o ^^^ f (o + 1) ^^^ f (o + 2) ^^^ f (o + 3) ^^^ dbl (f (o + 2) ^^^ f (o + 3)))
  else if i = o + 3 then f (o + 3) ^^^ (f o ^^^ f (o + 1) ^^^ f (o + 2) ^^^ f (o + 3) ^^^ dbl (f (o + 3) ^^^ f o))
  else f i
theorem Hp.start1 {w : World} {b : Nat} {t : TypeId} {cs : Array Value} (h : Blk w b t cs) : Hp [b] w w [(some b, t, cs)] :=
  (Hp.start [b] w).add (some b, t, cs) (fun b' hb' => by cases hb'; exact ⟨.inr (by simp), h⟩) (by simp)
theorem col_step (f : Nat → UInt8) (o k i : Nat) (hk : k < 3) :
    upd (fun i => if i < o + k then colf f o i else f i) (o + k)
      ((if o + k < o + k then colf f o (o + k) else f (o + k)) ^^^
        (f o ^^^ f (o + 1) ^^^ f (o + 2) ^^^ f (o + 3) ^^^
          dbl ((if o + k < o + k then colf f o (o + k) else f (o + k)) ^^^ if o + (k + 1) < o + k then colf f o (o + (k + 1)) else f (o + (k + 1))))) i = if i < o + (k + 1) then colf f o i else f i := by
  rw [if_neg (Nat.lt_irrefl _), if_neg (by omega)]
  simp only [upd]
  by_cases h : i = o + k
  · subst h
    rw [if_pos rfl, if_pos (by omega)]
    obtain rfl | rfl | rfl : k = 0 ∨ k = 1 ∨ k = 2 := by omega
    · simp [colf]
    · simp [colf]
    · simp [colf]
  · rw [if_neg h]
    by_cases h1 : i < o + k
    · rw [if_pos h1, if_pos (by omega)]
    · rw [if_neg h1, if_neg (by omega)]
theorem col_last (f : Nat → UInt8) (o k i : Nat) (hk : 3 ≤ k) (hk' : k ≤ 3) :
    upd (fun i => if i < o + k then colf f o i else f i) (o + 3)
      ((if o + 3 < o + k then colf f o (o + 3) else f (o + 3)) ^^^
        (f o ^^^ f (o + 1) ^^^ f (o + 2) ^^^ f (o + 3) ^^^ dbl ((if o + 3 < o + k then colf f o (o + 3) else f (o + 3)) ^^^ f o))) i = colf f o i := by
  obtain rfl : k = 3 := by omega
  rw [if_neg (Nat.lt_irrefl _)]
  simp only [upd]
  by_cases h : i = o + 3
  · subst h
    simp [colf]
  · rw [if_neg h]
    by_cases h1 : i < o + 3
    · rw [if_pos h1]
    · rw [if_neg h1]
      unfold colf
      rw [if_neg (by omega), if_neg (by omega), if_neg (by omega), if_neg (by omega)]
theorem double_calls (x : UInt8) (w : World) : Ret Tryd.prog 61 #[V8 x] w fun v w' => v = V8 (dbl x) ∧ Chg [] w w' := by
 refine Ret.enter Tryd.func61 rfl ?_
 simp only [Tryd.ntmps61, fe, Nat.reduceAdd, Nat.reduceSub]
 have hH := Hp.start [] w
 refine wp_seq_k ?_
 intro K1 hK1
 refine wrt [.p 0] ?_
 refine pa ?_;simp only [nf]
 refine plan_nil hH ?_
 clear hH
 intro w2 hH
 refine hK1 _ _ ?_
 (try clear hK1 K1)
 refine wp_seq_k ?_
 intro K3 hK3
 refine wrt [.p 0, .p 1, .p 2, .p 3, .p 4, .p 5, .p 6] ?_
 refine pm ?_;simp only [nf]
 refine pp rfl rfl (pr_bin rfl rfl (bin_shlc_u8 1 1 (by decide) rfl _)) ?_;simp only [nf]
 refine pm ?_;simp only [nf]
 refine pp rfl rfl (pr_bin rfl rfl (bin_shrc_u8 7 7 (by decide) rfl _)) ?_;simp only [nf]
 refine pp rfl rfl (pr_bin rfl rfl (bin_mul_u8 _ 27)) ?_;simp only [nf]
 refine pp rfl rfl (pr_bin rfl rfl (bin_xor_u8 _ _)) ?_;simp only [nf]
 refine pa ?_;simp only [nf]
 refine plan_nil hH ?_
 clear hH
 intro w4 hH
 refine hK3 _ _ ?_
 (try clear hK3 K3)
 refine wp_ret ?_
 (try simp only [Exit.then, Exit.inBlock, ↓reduceIte, Nat.reduceEqDiff])
 refine BP.ret1 rfl rfl ?_
 exact ⟨rfl, hH.chg⟩
theorem sub_calls (w : World) : Ret Tryd.prog 60 #[] w fun v w' => v = .agg (arr8 256 sbox) ∧ Chg [] w w' := by
 refine Ret.enter Tryd.func60 rfl ?_
 simp only [Tryd.ntmps60, fe, Nat.reduceAdd, Nat.reduceSub]
 have hH := Hp.start [] w
 refine wp_seq_k ?_
 intro K1 hK1
 refine wrt [.x 0] ?_
 refine plan_alloc rfl rfl hH zc99 ?_
 clear hH
 intro b2 w3 hH
 (try simp only [nf, nh, Value.cells] at hH ⊢)
 refine plan_nil hH ?_
 clear hH
 intro w4 hH
 refine hK1 _ _ ?_
 (try clear hK1 K1)
 refine wp_seq_k ?_
 intro K5 hK5
 refine wrt [.p 0, .e 1] ?_
 refine plan_p (v := .agg (arr8 256 sbox)) rfl rfl (fun w => by kernel_rfl) ?_
 (try simp only [nf])
 refine plan_storeW 0 rfl rfl hH rfl rfl rfl one_arr8 sz99 (by simp) (by simp) ?_
 clear hH
 intro w6 hH
 (try simp only [nf, nh, Value.cells] at hH ⊢)
 refine plan_nil hH ?_
 clear hH
 intro w7 hH
 refine hK5 _ _ ?_
 (try clear hK5 K5)
 refine wp_ret ?_
 (try simp only [Exit.then, Exit.inBlock, ↓reduceIte, Nat.reduceEqDiff])
 refine BP.retc rfl rfl (hH.blk 0 rfl) Tryd.underlying99 rfl sz99 (by simp) ?_
 exact ⟨rfl, hH.chg⟩
theorem mix_calls (f g : Nat → UInt8) (w : World) : Ret Tryd.prog 74 #[.agg (arr8 16 f), .agg (arr8 16 g)] w fun v w' => v = .agg (arr8 16 fun i => f i ^^^ g i) ∧ Chg [] w w' := by
 refine Ret.enter Tryd.func74 rfl ?_
 simp only [Tryd.ntmps74, fe, Nat.reduceAdd, Nat.reduceSub]
 have hH := Hp.start [] w
 refine wp_seq_k ?_
 intro K1 hK1
 refine wrt [.x 0, .x 1, .x 2] ?_
 refine plan_box rfl rfl hH rfl ?_
 clear hH
 intro b2 w3 hH
 (try simp only [nf, nh, Value.cells] at hH ⊢)
 refine plan_box rfl rfl hH rfl ?_
 clear hH
 intro b4 w5 hH
 (try simp only [nf, nh, Value.cells] at hH ⊢)
 refine plan_alloc rfl rfl hH zc87 ?_
 clear hH
 intro b6 w7 hH
 (try simp only [nf, nh, Value.cells] at hH ⊢)
 refine plan_nil hH ?_
 clear hH
 intro w8 hH
 refine hK1 _ _ ?_
 (try clear hK1 K1)
 refine wp_seq_k ?_
 intro K9 hK9
 refine wp_seq_k ?_
 intro K10 hK10
 refine wrt [.p 0] ?_
 refine pk 0 ?_;simp only [nf]
 refine plan_nil hH ?_
 clear hH
 intro w11 hH
 refine hK10 _ _ ?_
 (try clear hK10 K10)
 refine wp_block ?_
 refine wp_loopT [6] [5, 7, 8, 9, 10, 11, 12, 13, 14, 15, 16, 17] (fun (n12 : Nat) (vs : List Value) (w' : World) => ∃ (k : Nat), vs = [I64 (k : Nat)] ∧ Hp [] w w' [(some b2, 87, arr8 16 fun i => if i < k then f i ^^^ g i else f i), (some b4, 87, arr8 16 g), (some b6, 87, arr8 16 fun _ => 0)] ∧ n12 = 16 - k ∧ k ≤ 16) (16 - 0) (by kernel_rfl) ?_ ?_
 ·
  simp only [ga]
  refine ⟨0, rfl, ?_, rfl, ?_⟩
  ·
   exact hH.say 0 rfl (arr8_congr fun i hi => by rw [if_neg (by omega)])
  · first | omega | (omega)
 clear hH
 intro n12 vs13 w14 hR15 d0
 obtain ⟨k, rfl, hH, hn16, hf17⟩ := hR15
 simp only [putAll, putD, List.set_cons_zero, List.set_cons_succ, Nat.zero_add, Nat.reduceAdd]
 refine wp_seq_k ?_
 intro K18 hK18
 refine wrt [.p 0] ?_
 refine pp rfl rfl (pr_bin rfl rfl (by first | exact bin_lss_n (n := 16)  | exact bin_lss_i)) ?_;simp only [nf]
 refine plan_nil hH ?_
 clear hH
 intro w19 hH
 refine hK18 _ _ ?_
 (try clear hK18 K18)
 refine wp_seq_k ?_
 intro K20 hK20
 refine wp_cond_split rfl (fun hc21 => ?_) (fun hc21 => ?_)
 ·
  (try simp only [cnd] at hc21)
  refine wp_skip ?_
  refine hK20 _ _ ?_
  (try clear hK20 K20)
  refine wp_seq_k ?_
  intro K22 hK22
  refine wp_block ?_
  refine wp_seq_k ?_
  intro K23 hK23
  refine wrt [.p 0, .p 1] ?_
  refine pm (pa ?_);simp only [nf]
  refine plan_nil hH ?_
  clear hH
  intro w24 hH
  refine hK23 _ _ ?_
  (try clear hK23 K23)
  refine wrp [.p 0, .p 1, .p 3, .p 4, .q 2, .q 5, .p 6, .p 7, .e 8] ?_
  refine pm ?_;simp only [nf]
  refine pp rfl rfl (pr_idxA1 rfl rfl Tryd.underlying87 sz5 (by omega)) ?_;simp only [nf]
  refine pm ?_;simp only [nf]
  refine pp rfl rfl (pr_idxA1 rfl rfl Tryd.underlying87 sz5 (by omega)) ?_;simp only [nf]
  refine pq rfl rfl (qr_load1 rfl Tryd.underlying5 rfl ((hH.blk 0 rfl).cell (arr8_get (by omega)))) ?_;simp only [nf]
  refine pq rfl rfl (qr_load1 rfl Tryd.underlying5 rfl ((hH.blk 1 rfl).cell (arr8_get (by omega)))) ?_;simp only [nf]
  refine pp rfl rfl (pr_bin rfl rfl (bin_xor_u8 _ _)) ?_;simp only [nf]
  refine pp rfl rfl (pr_idxA1 rfl rfl Tryd.underlying87 sz5 (by omega)) ?_;simp only [nf]
  refine plan_store1 0 rfl rfl hH rfl rfl rfl rfl sz5 (by simp <;> omega) ?_
  clear hH
  intro w25 hH
  (try simp only [nf, nh, Value.cells] at hH ⊢)
  refine plan_nil hH ?_
  clear hH
  intro w26 hH
  refine hK22 _ _ ?_
  (try clear hK22 K22)
  refine wrt [.p 0, .p 1] ?_
  refine pp rfl rfl (pr_bin rfl rfl (by first | exact bin_add_n (n := 1) (by omega) | exact bin_add_i (by omega) (by omega))) ?_;simp only [nf]
  refine pm ?_;simp only [nf]
  refine plan_nil hH ?_
  clear hH
  intro w27 hH
  (try simp only [Exit.then, Exit.inBlock, ↓reduceIte, Nat.reduceEqDiff])
  refine ⟨16 - (k + 1), ?_, _, rfl, by kernel_rfl, ?_⟩
  · first | omega | (omega)
  simp only [ga]
  refine ⟨k + 1, rfl, ?_, rfl, ?_⟩
  ·
   exact hH.say 0 rfl (arr8_congr fun i hi => upd_lt (g := fun i => f i ^^^ g i) (z := f) (by rw [if_neg (Nat.lt_irrefl _)]) i)
  · first | omega | (omega)
 ·
  (try simp only [cnd] at hc21)
  refine wp_exit ?_
  (try simp only [Exit.then, Exit.inBlock, ↓reduceIte, Nat.reduceEqDiff])
  refine hK9 _ _ ?_
  (try clear hK9 K9)
  refine wp_seq_k ?_
  intro K28 hK28
  refine wrt [.q 0, .e 1] ?_
  refine pq rfl rfl (qr_loadW rfl (hH.blk 0 rfl) Tryd.underlying87 rfl sz87 (by simp)) ?_;simp only [nf]
  refine plan_storeW 2 rfl rfl hH rfl rfl rfl one_arr8 sz87 (by simp) (by simp) ?_
  clear hH
  intro w29 hH
  (try simp only [nf, nh, Value.cells] at hH ⊢)
  refine plan_nil hH ?_
  clear hH
  intro w30 hH
  refine hK28 _ _ ?_
  (try clear hK28 K28)
  refine wp_ret ?_
  (try simp only [Exit.then, Exit.inBlock, ↓reduceIte, Nat.reduceEqDiff])
  refine BP.retc rfl rfl (hH.blk 2 rfl) Tryd.underlying87 rfl sz87 (by simp) ?_
  exact ⟨by rw [arr8_congr fun i hi => if_pos (by omega)], hH.chg⟩
theorem column_calls (b o m T c : Nat) (f : Nat → UInt8) (ho : o + 4 ≤ m) (w : World) (hb : Blk w b T (arr8 m f)) :
    Ret Tryd.prog 75 #[.slice (some ⟨b, o, none⟩) 4 c] w fun v w' => v = .tuple #[] ∧ Chg [b] w w' ∧ Blk w' b T (arr8 m (colf f o)) := by
 refine Ret.enter Tryd.func75 rfl ?_
 simp only [Tryd.ntmps75, fe, Nat.reduceAdd, Nat.reduceSub]
 have hH := Hp.start1 hb
 refine wp_seq_k ?_
 intro K1 hK1
 refine wrp [.p 0, .p 1, .p 3, .p 4, .p 7, .p 8, .p 11, .p 12, .p 15, .p 16, .q 2, .q 5, .p 6, .q 9, .p 10, .q 13, .p 14, .p 18, .q 17, .p 19] ?_
 refine pm ?_;simp only [nf]
 refine pp rfl rfl (pr_idxS1 (i := 0) rfl rfl Tryd.underlying22 sz5 (by omega)) ?_;simp only [nf]
 refine pm ?_;simp only [nf]
 refine pp rfl rfl (pr_idxS1 (i := 1) rfl rfl Tryd.underlying22 sz5 (by omega)) ?_;simp only [nf]
 refine pm ?_;simp only [nf]
 refine pp rfl rfl (pr_idxS1 (i := 2) rfl rfl Tryd.underlying22 sz5 (by omega)) ?_;simp only [nf]
 refine pm ?_;simp only [nf]
 refine pp rfl rfl (pr_idxS1 (i := 3) rfl rfl Tryd.underlying22 sz5 (by omega)) ?_;simp only [nf]
 refine pm ?_;simp only [nf]
 refine pp rfl rfl (pr_idxS1 (i := 0) rfl rfl Tryd.underlying22 sz5 (by omega)) ?_;simp only [nf]
 refine pq rfl rfl (qr_load1 rfl Tryd.underlying5 rfl ((hH.blk 0 rfl).cell (arr8_get (by omega)))) ?_;simp only [nf]
 refine pq rfl rfl (qr_load1 rfl Tryd.underlying5 rfl ((hH.blk 0 rfl).cell (arr8_get (by omega)))) ?_;simp only [nf]
 refine pp rfl rfl (pr_bin rfl rfl (bin_xor_u8 _ _)) ?_;simp only [nf]
 refine pq rfl rfl (qr_load1 rfl Tryd.underlying5 rfl ((hH.blk 0 rfl).cell (arr8_get (by omega)))) ?_;simp only [nf]
 refine pp rfl rfl (pr_bin rfl rfl (bin_xor_u8 _ _)) ?_;simp only [nf]
 refine pq rfl rfl (qr_load1 rfl Tryd.underlying5 rfl ((hH.blk 0 rfl).cell (arr8_get (by omega)))) ?_;simp only [nf]
 refine pp rfl rfl (pr_bin rfl rfl (bin_xor_u8 _ _)) ?_;simp only [nf]
 refine pa ?_;simp only [nf]
 refine pq rfl rfl (qr_load1 rfl Tryd.underlying5 rfl ((hH.blk 0 rfl).cell (arr8_get (by omega)))) ?_;simp only [nf]
 refine pa ?_;simp only [nf]
 refine plan_nil hH ?_
 clear hH
 intro w2 hH
 refine hK1 _ _ ?_
 (try clear hK1 K1)
 refine wp_seq_k ?_
 intro K3 hK3
 refine wp_seq_k ?_
 intro K4 hK4
 refine wrt [.p 0] ?_
 refine pk 0 ?_;simp only [nf]
 refine plan_nil hH ?_
 clear hH
 intro w5 hH
 refine hK4 _ _ ?_
 (try clear hK4 K4)
 refine wp_block ?_
 refine wp_loopT [23] [4, 24, 25, 26, 27, 28, 29, 30, 31, 32, 33, 34, 35, 36, 37, 38, 39, 40, 41, 42, 43, 44, 45] (fun (n6 : Nat) (vs : List Value) (w' : World) => ∃ (k : Nat), vs = [I64 (k : Nat)] ∧ Hp [b] w w' [(some b, T, arr8 m fun i => if i < o + k then colf f o i else f i)] ∧ n6 = 3 - k ∧ k ≤ 3) (3 - 0) (by kernel_rfl) ?_ ?_
 ·
  simp only [ga]
  refine ⟨0, rfl, ?_, rfl, ?_⟩
  ·
   exact hH.say 0 rfl (arr8_congr fun i hi => by split <;> first | rfl | (unfold colf; rw [if_neg (by omega), if_neg (by omega), if_neg (by omega), if_neg (by omega)]))
  · first | omega | (omega)
 clear hH
 intro n6 vs7 w8 hR9 d0
 obtain ⟨k, rfl, hH, hn10, hf11⟩ := hR9
 simp only [putAll, putD, List.set_cons_zero, List.set_cons_succ, Nat.zero_add, Nat.reduceAdd]
 refine wp_seq_k ?_
 intro K12 hK12
 refine wrt [.p 0] ?_
 refine pp rfl rfl (pr_bin rfl rfl (by first | exact bin_lss_n (n := 3)  | exact bin_lss_i)) ?_;simp only [nf]
 refine plan_nil hH ?_
 clear hH
 intro w13 hH
 refine hK12 _ _ ?_
 (try clear hK12 K12)
 refine wp_seq_k ?_
 intro K14 hK14
 refine wp_cond_split rfl (fun hc15 => ?_) (fun hc15 => ?_)
 ·
  (try simp only [cnd] at hc15)
  refine wp_skip ?_
  refine hK14 _ _ ?_
  (try clear hK14 K14)
  refine wp_seq_k ?_
  intro K16 hK16
  refine wp_block ?_
  refine wp_seq_k ?_
  intro K17 hK17
  refine wrt [.p 0, .p 1] ?_
  refine pm (pa ?_);simp only [nf]
  refine plan_nil hH ?_
  clear hH
  intro w18 hH
  refine hK17 _ _ ?_
  (try clear hK17 K17)
  refine wrp [.p 0, .p 1, .p 2, .p 4, .p 5, .p 6, .p 7, .p 9, .p 10, .p 11, .p 12, .q 3, .q 8, .q 13, .p 14, .q 15, .p 16, .p 17, .p 18, .e 19] ?_
  refine pm (pm ?_);simp only [nf]
  refine pp rfl rfl (pr_idxS1 rfl rfl Tryd.underlying22 sz5 (by omega)) ?_;simp only [nf]
  refine pm (pm (pm ?_));simp only [nf]
  refine pp rfl rfl (pr_idxS1 rfl rfl Tryd.underlying22 sz5 (by omega)) ?_;simp only [nf]
  refine pm (pm ?_);simp only [nf]
  refine pp rfl rfl (pr_bin rfl rfl (by first | exact bin_add_n (n := 1) (by omega) | exact bin_add_i (by omega) (by omega))) ?_;simp only [nf]
  refine pp rfl rfl (pr_idxS1 rfl rfl Tryd.underlying22 sz5 (by omega)) ?_;simp only [nf]
  refine pq rfl rfl (qr_load1 rfl Tryd.underlying5 rfl ((hH.blk 0 rfl).cell (arr8_get (by omega)))) ?_;simp only [nf]
  refine pq rfl rfl (qr_load1 rfl Tryd.underlying5 rfl ((hH.blk 0 rfl).cell (arr8_get (by omega)))) ?_;simp only [nf]
  refine pq rfl rfl (qr_load1 rfl Tryd.underlying5 rfl ((hH.blk 0 rfl).cell (arr8_get (by omega)))) ?_;simp only [nf]
  refine pp rfl rfl (pr_bin rfl rfl (bin_xor_u8 _ _)) ?_;simp only [nf]
  refine pq rfl rfl (qr_call cf61 (fun w' hw => double_calls _ w') rfl) ?_;simp only [nf]
  refine pp rfl rfl (pr_bin rfl rfl (bin_xor_u8 _ _)) ?_;simp only [nf]
  refine pp rfl rfl (pr_bin rfl rfl (bin_xor_u8 _ _)) ?_;simp only [nf]
  refine pp rfl rfl (pr_idxS1 rfl rfl Tryd.underlying22 sz5 (by omega)) ?_;simp only [nf]
  refine plan_store1 0 rfl rfl hH rfl rfl rfl rfl sz5 (by simp <;> omega) ?_
  clear hH
  intro w19 hH
  (try simp only [nf, nh, Value.cells] at hH ⊢)
  refine plan_nil hH ?_
  clear hH
  intro w20 hH
  refine hK16 _ _ ?_
  (try clear hK16 K16)
  refine wrt [.p 0, .p 1] ?_
  refine pp rfl rfl (pr_bin rfl rfl (by first | exact bin_add_n (n := 1) (by omega) | exact bin_add_i (by omega) (by omega))) ?_;simp only [nf]
  refine pm ?_;simp only [nf]
  refine plan_nil hH ?_
  clear hH
  intro w21 hH
  (try simp only [Exit.then, Exit.inBlock, ↓reduceIte, Nat.reduceEqDiff])
  refine ⟨3 - (k + 1), ?_, _, rfl, by kernel_rfl, ?_⟩
  · first | omega | (omega)
  simp only [ga]
  refine ⟨k + 1, rfl, ?_, rfl, ?_⟩
  ·
   exact hH.say 0 rfl (arr8_congr fun i hi => col_step f o k i (by omega))
  · first | omega | (omega)
 ·
  (try simp only [cnd] at hc15)
  refine wp_exit ?_
  (try simp only [Exit.then, Exit.inBlock, ↓reduceIte, Nat.reduceEqDiff])
  refine hK3 _ _ ?_
  (try clear hK3 K3)
  refine wrp [.p 0, .p 1, .p 3, .p 4, .p 5, .p 7, .q 2, .q 6, .p 8, .q 9, .p 10, .p 11, .p 12, .e 13] ?_
  refine pm ?_;simp only [nf]
  refine pp rfl rfl (pr_idxS1 (i := 3) rfl rfl Tryd.underlying22 sz5 (by omega)) ?_;simp only [nf]
  refine pm (pm ?_);simp only [nf]
  refine pp rfl rfl (pr_idxS1 (i := 3) rfl rfl Tryd.underlying22 sz5 (by omega)) ?_;simp only [nf]
  refine pm ?_;simp only [nf]
  refine pq rfl rfl (qr_load1 rfl Tryd.underlying5 rfl ((hH.blk 0 rfl).cell (arr8_get (by omega)))) ?_;simp only [nf]
  refine pq rfl rfl (qr_load1 rfl Tryd.underlying5 rfl ((hH.blk 0 rfl).cell (arr8_get (by omega)))) ?_;simp only [nf]
  refine pp rfl rfl (pr_bin rfl rfl (bin_xor_u8 _ _)) ?_;simp only [nf]
  refine pq rfl rfl (qr_call cf61 (fun w' hw => double_calls _ w') rfl) ?_;simp only [nf]
  refine pp rfl rfl (pr_bin rfl rfl (bin_xor_u8 _ _)) ?_;simp only [nf]
  refine pp rfl rfl (pr_bin rfl rfl (bin_xor_u8 _ _)) ?_;simp only [nf]
  refine pp rfl rfl (pr_idxS1 (i := 3) rfl rfl Tryd.underlying22 sz5 (by omega)) ?_;simp only [nf]
  refine plan_store1 0 rfl rfl hH rfl rfl rfl rfl sz5 (by simp <;> omega) ?_
  clear hH
  intro w22 hH
  (try simp only [nf, nh, Value.cells] at hH ⊢)
  refine plan_nil hH ?_
  clear hH
  intro w23 hH
  refine BP.normal ?_
  refine BP.ret0 rfl rfl ?_
  exact ⟨rfl, hH.chg, (hH.say 0 rfl (arr8_congr fun i hi => col_last f o k i (by omega) (by omega))).blk 0 rfl⟩
def subs (s : Nat → UInt8) : Nat → UInt8 := fun j => sbox (s ((j + 4 * (j % 4)) % 16)).toNat
def colsN (t : Nat → UInt8) : Nat → (Nat → UInt8)
  | 0 => t
  | n + 1 => colf (colsN t n) (4 * n)
def aesR (k s : Nat → UInt8) : Nat → (Nat → UInt8)
  | 0 => fun j => s j ^^^ k j
  | n + 1 => fun j => (if n + 1 < 10 then colsN (subs (aesR k s n)) 4 else subs (aesR k s n)) j ^^^ k ((n + 1) * 16 + j)
theorem aesR_succ (k s : Nat → UInt8) (n : Nat) : aesR k s (n + 1) = fun j => (if n + 1 < 10 then colsN (subs (aesR k s n)) 4 else subs (aesR k s n)) j ^^^ k ((n + 1) * 16 + j) := rfl
theorem turn_calls (bc : Nat) (kf f : Nat → UInt8) (w : World) (hc : Blk w bc 109 (arr8 176 kf)) :
    Ret Tryd.prog 62 #[PT bc 0, .agg (arr8 16 f)] w fun v w' => v = .agg (arr8 16 (aesR kf f 10)) ∧ Chg [] w w' := by
 refine Ret.enter Tryd.func62 rfl ?_
 simp only [Tryd.ntmps62, fe, Nat.reduceAdd, Nat.reduceSub]
 have hH := Hp.start [] w
 refine wp_seq_k ?_
 intro K1 hK1
 refine wrt [.x 0, .x 1] ?_
 refine plan_box rfl rfl hH rfl ?_
 clear hH
 intro b2 w3 hH
 (try simp only [nf, nh, Value.cells] at hH ⊢)
 refine plan_alloc rfl rfl hH zc87 ?_
 clear hH
 intro b4 w5 hH
 (try simp only [nf, nh, Value.cells] at hH ⊢)
 refine plan_nil hH ?_
 clear hH
 intro w6 hH
 refine hK1 _ _ ?_
 (try clear hK1 K1)
 refine wp_seq_k ?_
 intro K7 hK7
 refine wrp [.p 1, .p 2, .p 3, .p 4, .q 0, .q 5, .q 6, .x 7, .e 8] ?_
 refine pm ?_;simp only [nf]
 refine pp rfl rfl (pr_nilCheck rfl) ?_;simp only [nf]
 refine pp rfl rfl (pr_fieldAddr 0 rfl Tryd.underlying109 rfl rfl sz107) ?_;simp only [nf]
 refine pp rfl rfl (pr_idxA (i := 0) rfl rfl Tryd.underlying107 sz87 (by omega)) ?_;simp only [nf]
 refine pq rfl rfl (qr_loadW rfl (hH.blk 0 rfl) Tryd.underlying87 rfl sz87 (by simp)) ?_;simp only [nf]
 refine pq rfl rfl (qr_load8 rfl (hH.chg.nil_blk hc) Tryd.underlying87 rfl sz87 (by omega)) ?_;simp only [nf]
 refine pq rfl rfl (qr_call cf74 (fun w' hw => mix_calls _ _ w') rfl) ?_;simp only [nf]
 refine plan_alloc rfl rfl hH zc87 ?_
 clear hH
 intro b8 w9 hH
 (try simp only [nf, nh, Value.cells] at hH ⊢)
 refine plan_storeW 2 rfl rfl hH rfl rfl rfl one_arr8 sz87 (by simp) (by simp) ?_
 clear hH
 intro w10 hH
 (try simp only [nf, nh, Value.cells] at hH ⊢)
 refine plan_nil hH ?_
 clear hH
 intro w11 hH
 refine hK7 _ _ ?_
 (try clear hK7 K7)
 refine wp_seq_k ?_
 intro K12 hK12
 refine wp_seq_k ?_
 intro K13 hK13
 refine wrt [.p 0] ?_
 refine pka 1 ?_;simp only [nf]
 refine plan_nil hH ?_
 clear hH
 intro w14 hH
 refine hK13 _ _ ?_
 (try clear hK13 K13)
 refine wp_block ?_
 refine wp_loopT [6] [7, 8, 9, 17, 18, 19, 20, 21, 22, 23, 24, 25, 26, 27, 28, 29, 30, 31, 32, 33, 34, 35, 36, 37, 38, 39, 40, 41, 42, 43, 44, 45, 46, 47, 48, 49, 50, 51, 52, 53, 54, 55] (fun (n15 : Nat) (vs : List Value) (w' : World) => ∃ (k : Nat), vs = [I64 ((k + 1 : Nat))] ∧ Hp [] w w' [(some b2, 87, arr8 16 f), (some b4, 87, arr8 16 fun _ => 0), (some b8, 87, arr8 16 (aesR kf f k))] ∧ n15 = 10 - k ∧ k ≤ 10) (10 - 0) (by kernel_rfl) ?_ ?_
 ·
  simp only [ga]
  refine ⟨0, rfl, ?_, rfl, ?_⟩
  ·
   exact hH.say 2 rfl rfl
  · first | omega | (omega)
 clear hH
 intro n15 vs16 w17 hR18 d0
 obtain ⟨k, rfl, hH, hn19, hf20⟩ := hR18
 simp only [putAll, putD, List.set_cons_zero, List.set_cons_succ, Nat.zero_add, Nat.reduceAdd]
 refine wp_seq_k ?_
 intro K21 hK21
 refine wp_seq_k ?_
 intro K22 hK22
 refine wrt [.p 0, .p 1] ?_
 refine pm ?_;simp only [nf]
 refine pp rfl rfl (pr_bin rfl rfl (by first | exact bin_leq_n (n := 10)  | exact bin_leq_i)) ?_;simp only [nf]
 refine plan_nil hH ?_
 clear hH
 intro w23 hH
 refine hK22 _ _ ?_
 (try clear hK22 K22)
 refine wp_cond_split rfl (fun hc24 => ?_) (fun hc24 => ?_)
 ·
  (try simp only [cnd] at hc24)
  refine wp_skip ?_
  refine hK21 _ _ ?_
  (try clear hK21 K21)
  refine wp_seq_k ?_
  intro K25 hK25
  refine wp_block ?_
  refine wp_seq_k ?_
  intro K26 hK26
  refine wrt [.x 0] ?_
  refine plan_alloc rfl rfl hH zc87 ?_
  clear hH
  intro b27 w28 hH
  (try simp only [nf, nh, Value.cells] at hH ⊢)
  refine plan_nil hH ?_
  clear hH
  intro w29 hH
  refine hK26 _ _ ?_
  (try clear hK26 K26)
  refine wp_seq_k ?_
  intro K30 hK30
  refine wp_seq_k ?_
  intro K31 hK31
  refine wrt [.p 0] ?_
  refine pk 0 ?_;simp only [nf]
  refine plan_nil hH ?_
  clear hH
  intro w32 hH
  refine hK31 _ _ ?_
  (try clear hK31 K31)
  refine wp_block ?_
  refine wp_loopT [21] [8, 22, 23, 24, 25, 26, 27, 28, 29, 30, 31, 32, 33, 34, 35, 36] (fun (n33 : Nat) (vs : List Value) (w' : World) => ∃ (j : Nat), vs = [I64 (j : Nat)] ∧ Hp [] w w' [(some b2, 87, arr8 16 f), (some b4, 87, arr8 16 fun _ => 0), (some b8, 87, arr8 16 (aesR kf f k)), (some b27, 87, arr8 16 fun i => if i < j then subs (aesR kf f k) i else 0)] ∧ n33 = 16 - j ∧ j ≤ 16) (16 - 0) (by kernel_rfl) ?_ ?_
  ·
   simp only [ga]
   refine ⟨0, rfl, ?_, rfl, ?_⟩
   ·
    exact hH.say 3 rfl (arr8_congr fun i hi => by rw [if_neg (by omega)])
   · first | omega | (omega)
  clear hH
  intro n33 vs34 w35 hR36 d1
  obtain ⟨j, rfl, hH, hn37, hf38⟩ := hR36
  simp only [putAll, putD, List.set_cons_zero, List.set_cons_succ, Nat.zero_add, Nat.reduceAdd]
  refine wp_seq_k ?_
  intro K39 hK39
  refine wrt [.p 0] ?_
  refine pp rfl rfl (pr_bin rfl rfl (by first | exact bin_lss_n (n := 16)  | exact bin_lss_i)) ?_;simp only [nf]
  refine plan_nil hH ?_
  clear hH
  intro w40 hH
  refine hK39 _ _ ?_
  (try clear hK39 K39)
  refine wp_seq_k ?_
  intro K41 hK41
  refine wp_cond_split rfl (fun hc42 => ?_) (fun hc42 => ?_)
  ·
   (try simp only [cnd] at hc42)
   refine wp_skip ?_
   refine hK41 _ _ ?_
   (try clear hK41 K41)
   refine wp_seq_k ?_
   intro K43 hK43
   refine wp_block ?_
   refine wp_seq_k ?_
   intro K44 hK44
   refine wrt [.p 0, .p 1] ?_
   refine pm (pa ?_);simp only [nf]
   refine plan_nil hH ?_
   clear hH
   intro w45 hH
   refine hK44 _ _ ?_
   (try clear hK44 K44)
   refine wrp [.p 0, .p 2, .p 3, .p 4, .p 5, .p 6, .p 7, .p 8, .q 1, .q 9, .p 10, .p 11, .e 12] ?_
   refine pm (pm (pm ?_));simp only [nf]
   refine pp rfl rfl (pr_bin rfl rfl (by first | exact bin_rem_n (n := 4) (by omega))) ?_;simp only [nf]
   refine pp rfl rfl (pr_bin rfl rfl (by first | exact bin_mul_n (m := 4) (by omega) | exact bin_mul_i (by omega) (by omega))) ?_;simp only [nf]
   refine pp rfl rfl (pr_bin rfl rfl (by first | exact bin_add_n (by omega) | exact bin_add_i (by omega) (by omega))) ?_;simp only [nf]
   refine pp rfl rfl (pr_bin rfl rfl (by first | exact bin_rem_n (n := 16) (by omega))) ?_;simp only [nf]
   refine pp rfl rfl (pr_idxA1 rfl rfl Tryd.underlying87 sz5 (by omega)) ?_;simp only [nf]
   refine pq rfl rfl (qr_call cf60 (fun w' hw => sub_calls w') rfl) ?_;simp only [nf]
   refine pq rfl rfl (qr_load1 rfl Tryd.underlying5 rfl ((hH.blk 2 rfl).cell (arr8_get (by omega)))) ?_;simp only [nf]
   refine pp rfl rfl (pr_index_arr rfl rfl Tryd.underlying99 sz5 (notAgg Tryd.underlying5 rfl) (by first | omega | exact lt_u8 _) (arr8_get (by first | omega | exact lt_u8 _))) ?_;simp only [nf]
   refine pp rfl rfl (pr_idxA1 rfl rfl Tryd.underlying87 sz5 (by omega)) ?_;simp only [nf]
   refine plan_store1 3 rfl rfl hH rfl rfl rfl rfl sz5 (by simp <;> omega) ?_
   clear hH
   intro w46 hH
   (try simp only [nf, nh, Value.cells] at hH ⊢)
   refine plan_nil hH ?_
   clear hH
   intro w47 hH
   refine hK43 _ _ ?_
   (try clear hK43 K43)
   refine wrt [.p 0, .p 1] ?_
   refine pp rfl rfl (pr_bin rfl rfl (by first | exact bin_add_n (n := 1) (by omega) | exact bin_add_i (by omega) (by omega))) ?_;simp only [nf]
   refine pm ?_;simp only [nf]
   refine plan_nil hH ?_
   clear hH
   intro w48 hH
   (try simp only [Exit.then, Exit.inBlock, ↓reduceIte, Nat.reduceEqDiff])
   refine ⟨16 - (j + 1), ?_, _, rfl, by kernel_rfl, ?_⟩
   · first | omega | (omega)
   simp only [ga]
   refine ⟨j + 1, rfl, ?_, rfl, ?_⟩
   ·
    exact hH.say 3 rfl (arr8_congr fun i hi => upd_lt (g := subs (aesR kf f k)) (z := fun _ => 0) rfl i)
   · first | omega | (omega)
  ·
   (try simp only [cnd] at hc42)
   refine wp_exit ?_
   (try simp only [Exit.then, Exit.inBlock, ↓reduceIte, Nat.reduceEqDiff])
   refine hK30 _ _ ?_
   (try clear hK30 K30)
   refine wp_seq_k ?_
   intro K49 hK49
   refine wp_seq_k ?_
   intro K50 hK50
   refine wrt [.p 0, .p 1] ?_
   refine pm ?_;simp only [nf]
   refine pp rfl rfl (pr_bin rfl rfl (by first | exact bin_lss_n (n := 10)  | exact bin_lss_i)) ?_;simp only [nf]
   refine plan_nil hH ?_
   clear hH
   intro w51 hH
   refine hK50 _ _ ?_
   (try clear hK50 K50)
   refine wp_cond_split rfl (fun hc52 => ?_) (fun hc52 => ?_)
   ·
    (try simp only [cnd] at hc52)
    refine wp_seq_k ?_
    intro K53 hK53
    refine wrt [.p 0] ?_
    refine pka 0 ?_;simp only [nf]
    refine plan_nil hH ?_
    clear hH
    intro w54 hH
    refine hK53 _ _ ?_
    (try clear hK53 K53)
    refine wp_block ?_
    refine wp_loopT [9] [39, 40, 41, 42, 43, 44, 45, 46, 47] (fun (n55 : Nat) (vs : List Value) (w' : World) => ∃ (j : Nat), vs = [I64 ((4 * j : Nat))] ∧ Hp [] w w' [(some b2, 87, arr8 16 f), (some b4, 87, arr8 16 fun _ => 0), (some b8, 87, arr8 16 (aesR kf f k)), (some b27, 87, arr8 16 (colsN (subs (aesR kf f k)) j))] ∧ n55 = 4 - j ∧ j ≤ 4) (4 - 0) (by kernel_rfl) ?_ ?_
    ·
     simp only [ga]
     refine ⟨0, rfl, ?_, rfl, ?_⟩
     ·
      exact hH.say 3 rfl (arr8_congr fun i hi => by rw [if_pos (by omega)]; rfl)
     · first | omega | (omega)
    clear hH
    intro n55 vs56 w57 hR58 d2
    obtain ⟨j, rfl, hH, hn59, hf60⟩ := hR58
    simp only [putAll, putD, List.set_cons_zero, List.set_cons_succ, Nat.zero_add, Nat.reduceAdd]
    refine wp_seq_k ?_
    intro K61 hK61
    refine wp_seq_k ?_
    intro K62 hK62
    refine wrt [.p 0, .p 1] ?_
    refine pm ?_;simp only [nf]
    refine pp rfl rfl (pr_bin rfl rfl (by first | exact bin_lss_n (n := 16)  | exact bin_lss_i)) ?_;simp only [nf]
    refine plan_nil hH ?_
    clear hH
    intro w63 hH
    refine hK62 _ _ ?_
    (try clear hK62 K62)
    refine wp_cond_split rfl (fun hc64 => ?_) (fun hc64 => ?_)
    ·
     (try simp only [cnd] at hc64)
     refine wp_skip ?_
     refine hK61 _ _ ?_
     (try clear hK61 K61)
     refine wp_seq_k ?_
     intro K65 hK65
     refine wp_block ?_
     refine wrt [.p 0, .p 1, .p 2, .p 3, .e 4] ?_
     refine pm (pm ?_);simp only [nf]
     refine pp rfl rfl (pr_bin rfl rfl (by first | exact bin_add_n (n := 4) (by omega) | exact bin_add_i (by omega) (by omega))) ?_;simp only [nf]
     refine pp rfl rfl (pr_slice_arr_lh1 rfl rfl rfl Tryd.underlying87 sz5 (by omega) (by omega) (by omega)) ?_;simp only [nf]
     (try simp only [Nat.mul_one, Nat.zero_add, Nat.add_sub_cancel_left])
     refine plan_calle rfl rfl hH cf75 (fun w' hH => column_calls _ _ _ _ _ _ (by omega) w' (hH.blk 3 rfl)) rfl ?_
     clear hH
     intro w66 v67 w68 hH hp69
     obtain ⟨rfl, hg, hbk⟩ := hp69
     replace hH := hH.callw 3 rfl hg hbk
     clear hg hbk
     (try simp only [nf, nh, Value.cells] at hH ⊢)
     refine plan_nil hH ?_
     clear hH
     intro w70 hH
     refine hK65 _ _ ?_
     (try clear hK65 K65)
     refine wrt [.p 0, .p 1, .p 2] ?_
     refine pm ?_;simp only [nf]
     refine pp rfl rfl (pr_bin rfl rfl (by first | exact bin_add_n (n := 4) (by omega) | exact bin_add_i (by omega) (by omega))) ?_;simp only [nf]
     refine pa ?_;simp only [nf]
     refine plan_nil hH ?_
     clear hH
     intro w71 hH
     (try simp only [Exit.then, Exit.inBlock, ↓reduceIte, Nat.reduceEqDiff])
     refine ⟨4 - (j + 1), ?_, _, rfl, by kernel_rfl, ?_⟩
     · first | omega | (omega)
     simp only [ga]
     refine ⟨j + 1, rfl, ?_, rfl, ?_⟩
     ·
      exact hH
     · first | omega | (omega)
    ·
     (try simp only [cnd] at hc64)
     refine wp_exit ?_
     (try simp only [Exit.then, Exit.inBlock, ↓reduceIte, Nat.reduceEqDiff])
     refine hK49 _ _ ?_
     (try clear hK49 K49)
     refine wrp [.p 1, .p 2, .p 3, .p 4, .p 5, .q 0, .q 6, .q 7, .e 8] ?_
     refine pm (pm ?_);simp only [nf]
     refine pp rfl rfl (pr_nilCheck rfl) ?_;simp only [nf]
     refine pp rfl rfl (pr_fieldAddr 0 rfl Tryd.underlying109 rfl rfl sz107) ?_;simp only [nf]
     refine pp rfl rfl (pr_idxA rfl rfl Tryd.underlying107 sz87 (by omega)) ?_;simp only [nf]
     refine pq rfl rfl (qr_loadW rfl (hH.blk 3 rfl) Tryd.underlying87 rfl sz87 (by simp)) ?_;simp only [nf]
     refine pq rfl rfl (qr_load8 rfl (hH.chg.nil_blk hc) Tryd.underlying87 rfl sz87 (by omega)) ?_;simp only [nf]
     refine pq rfl rfl (qr_call cf74 (fun w' hw => mix_calls _ _ w') rfl) ?_;simp only [nf]
     refine plan_storeW 2 rfl rfl hH rfl rfl rfl one_arr8 sz87 (by simp) (by simp) ?_
     clear hH
     intro w72 hH
     (try simp only [nf, nh, Value.cells] at hH ⊢)
     refine plan_nil hH ?_
     clear hH
     intro w73 hH
     refine hK25 _ _ ?_
     (try clear hK25 K25)
     refine wrt [.p 0, .p 1, .p 2] ?_
     refine pm ?_;simp only [nf]
     refine pp rfl rfl (pr_bin rfl rfl (by first | exact bin_add_n (n := 1) (by omega) | exact bin_add_i (by omega) (by omega))) ?_;simp only [nf]
     refine pa ?_;simp only [nf]
     refine plan_nil hH ?_
     clear hH
     intro w74 hH
     (try simp only [Exit.then, Exit.inBlock, ↓reduceIte, Nat.reduceEqDiff])
     refine ⟨10 - (k + 1), ?_, _, rfl, by kernel_rfl, ?_⟩
     · first | omega | (omega)
     simp only [ga]
     refine ⟨k + 1, rfl, ?_, rfl, ?_⟩
     ·
      obtain rfl : j = 4 := by omega
      exact (hH.take 3).say 2 rfl (arr8_congr fun i hi => by rw [aesR_succ]; rw [if_pos (by omega)])
     · first | omega | (omega)
   ·
    (try simp only [cnd] at hc52)
    refine wp_skip ?_
    refine hK49 _ _ ?_
    (try clear hK49 K49)
    refine wrp [.p 1, .p 2, .p 3, .p 4, .p 5, .q 0, .q 6, .q 7, .e 8] ?_
    refine pm (pm ?_);simp only [nf]
    refine pp rfl rfl (pr_nilCheck rfl) ?_;simp only [nf]
    refine pp rfl rfl (pr_fieldAddr 0 rfl Tryd.underlying109 rfl rfl sz107) ?_;simp only [nf]
    refine pp rfl rfl (pr_idxA rfl rfl Tryd.underlying107 sz87 (by omega)) ?_;simp only [nf]
    refine pq rfl rfl (qr_loadW rfl (hH.blk 3 rfl) Tryd.underlying87 rfl sz87 (by simp)) ?_;simp only [nf]
    refine pq rfl rfl (qr_load8 rfl (hH.chg.nil_blk hc) Tryd.underlying87 rfl sz87 (by omega)) ?_;simp only [nf]
    refine pq rfl rfl (qr_call cf74 (fun w' hw => mix_calls _ _ w') rfl) ?_;simp only [nf]
    refine plan_storeW 2 rfl rfl hH rfl rfl rfl one_arr8 sz87 (by simp) (by simp) ?_
    clear hH
    intro w75 hH
    (try simp only [nf, nh, Value.cells] at hH ⊢)
    refine plan_nil hH ?_
    clear hH
    intro w76 hH
    refine hK25 _ _ ?_
    (try clear hK25 K25)
    refine wrt [.p 0, .p 1, .p 2] ?_
    refine pm ?_;simp only [nf]
    refine pp rfl rfl (pr_bin rfl rfl (by first | exact bin_add_n (n := 1) (by omega) | exact bin_add_i (by omega) (by omega))) ?_;simp only [nf]
    refine pa ?_;simp only [nf]
    refine plan_nil hH ?_
    clear hH
    intro w77 hH
    (try simp only [Exit.then, Exit.inBlock, ↓reduceIte, Nat.reduceEqDiff])
    refine ⟨10 - (k + 1), ?_, _, rfl, by kernel_rfl, ?_⟩
    · first | omega | (omega)
    simp only [ga]
    refine ⟨k + 1, rfl, ?_, rfl, ?_⟩
    ·
     exact (hH.take 3).say 2 rfl (arr8_congr fun i hi => by rw [aesR_succ]; rw [if_neg (by omega : ¬ k + 1 < 10), if_pos (by omega : i < j)])
    · first | omega | (omega)
 ·
  (try simp only [cnd] at hc24)
  refine wp_exit ?_
  (try simp only [Exit.then, Exit.inBlock, ↓reduceIte, Nat.reduceEqDiff])
  refine hK12 _ _ ?_
  (try clear hK12 K12)
  refine wp_seq_k ?_
  intro K78 hK78
  refine wrt [.q 0, .e 1] ?_
  refine pq rfl rfl (qr_loadW rfl (hH.blk 2 rfl) Tryd.underlying87 rfl sz87 (by simp)) ?_;simp only [nf]
  refine plan_storeW 1 rfl rfl hH rfl rfl rfl one_arr8 sz87 (by simp) (by simp) ?_
  clear hH
  intro w79 hH
  (try simp only [nf, nh, Value.cells] at hH ⊢)
  refine plan_nil hH ?_
  clear hH
  intro w80 hH
  refine hK78 _ _ ?_
  (try clear hK78 K78)
  refine wp_ret ?_
  (try simp only [Exit.then, Exit.inBlock, ↓reduceIte, Nat.reduceEqDiff])
  refine BP.retc rfl rfl (hH.blk 1 rfl) Tryd.underlying87 rfl sz87 (by simp) ?_
  obtain rfl : k = 10 := by omega
  exact ⟨rfl, hH.chg⟩
end Go.Proofs.YtmoaddicejohgaaDoor
