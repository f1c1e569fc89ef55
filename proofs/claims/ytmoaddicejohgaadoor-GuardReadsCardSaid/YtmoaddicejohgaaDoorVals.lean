/- Values of Go's whole numbers as Lean's own unsigned types, and what Go's operators give on them. -/
import Derived.WalkKit
set_option linter.unusedSimpArgs false
set_option linter.unusedVariables false
namespace Go.Proofs.YtmoaddicejohgaaDoor
open Go

abbrev BV (b : Bool) : Value := .bool b
abbrev I64 (n : Int) : Value := .int .i64 n
abbrev SV (s : ByteArray) : Value := .string s
abbrev PT (b o : Nat) : Value := .pointer (some ⟨b, o, none⟩)
/-- What an operator yields, in whatever world. -/
def Bin (P : Program) (op : BinOp) (t : TypeId) (x y : Operand) (vx vy v : Value) : Prop := ∀ w, (do eqGuard op t x y vx vy; binOp op t vx vy : Sem Value).run P w = .ok v w
def Cnv (P : Program) (s d : TypeId) (vx v : Value) : Prop := ∀ w, (convert s d vx).run P w = .ok v w

theorem run_eqGuard_int (P : Program) (op : BinOp) (t : TypeId) (x y : Operand) (k : IntKind) (m : Int) (v : Value) (w : World) : (eqGuard op t x y (.int k m) v).run P w = .ok () w := by
  unfold eqGuard; cases op <;> rfl
theorem run_eqGuard_bool (P : Program) (op : BinOp) (t : TypeId) (x y : Operand) (b : Bool) (v : Value) (w : World) : (eqGuard op t x y (.bool b) v).run P w = .ok () w := by
  unfold eqGuard; cases op <;> rfl
theorem run_eqGuard_string (P : Program) (op : BinOp) (t : TypeId) (x y : Operand) (b : ByteArray) (v : Value) (w : World) : (eqGuard op t x y (.string b) v).run P w = .ok () w := by
  unfold eqGuard; cases op <;> rfl
theorem run_eqGuard_pointer (P : Program) (op : BinOp) (t : TypeId) (x y : Operand) (b : Option Addr) (v : Value) (w : World) : (eqGuard op t x y (.pointer b) v).run P w = .ok () w := by
  unfold eqGuard; cases op <;> rfl

theorem bin_of_int {P : Program} {op : BinOp} {t : TypeId} {x y : Operand} {k : IntKind} {m : Int} {vy v : Value} (h : ∀ w, (binOp op t (.int k m) vy).run P w = .ok v w) : Bin P op t x y (.int k m) vy v := fun w => by
  rw [Sem.run_bind, run_eqGuard_int]; exact h w
theorem bin_of_bool {P : Program} {op : BinOp} {t : TypeId} {x y : Operand} {b : Bool} {vy v : Value} (h : ∀ w, (binOp op t (.bool b) vy).run P w = .ok v w) : Bin P op t x y (.bool b) vy v := fun w => by
  rw [Sem.run_bind, run_eqGuard_bool]; exact h w
theorem bin_of_string {P : Program} {op : BinOp} {t : TypeId} {x y : Operand} {b : ByteArray} {vy v : Value} (h : ∀ w, (binOp op t (.string b) vy).run P w = .ok v w) : Bin P op t x y (.string b) vy v := fun w => by
  rw [Sem.run_bind, run_eqGuard_string]; exact h w
theorem bin_of_pointer {P : Program} {op : BinOp} {t : TypeId} {x y : Operand} {b : Option Addr} {vy v : Value} (h : ∀ w, (binOp op t (.pointer b) vy).run P w = .ok v w) : Bin P op t x y (.pointer b) vy v := fun w => by
  rw [Sem.run_bind, run_eqGuard_pointer]; exact h w

section
variable {P : Program} {t ty : TypeId} {x y : Operand}

theorem ofInt_nat (w n : Nat) : BitVec.ofInt w (n : Int) = BitVec.ofNat w n := by
  apply BitVec.eq_of_toNat_eq; simp

abbrev V8 (x : UInt8) : Value := .int .u8 ((x.toNat : Nat) : Int)
theorem wrap_u8 (n : Nat) : IntKind.u8.wrap (n : Int) = ((n % 256 : Nat) : Int) := by simp [IntKind.wrap, IntKind.bits, IntKind.signed]
theorem lt_u8 (x : UInt8) : x.toNat < 256 := x.toNat_lt
theorem bin_xor_u8 (a b : UInt8) : Bin P .xor t x y (V8 a) (V8 b) (V8 (a ^^^ b)) := bin_of_int fun w => by
  simp only [binOp, Op.intBits, ofInt_nat]
  have h : (IntKind.u8.wrap (((BitVec.ofNat 8 a.toNat) ^^^ (BitVec.ofNat 8 b.toNat)).toNat : Int)) = (((a ^^^ b).toNat : Nat) : Int) := by
    rw [wrap_u8]; congr 1
    have ha := lt_u8 a; have hb := lt_u8 b
    rw [BitVec.toNat_xor, BitVec.toNat_ofNat, BitVec.toNat_ofNat, Nat.mod_eq_of_lt ha, Nat.mod_eq_of_lt hb, UInt8.toNat_xor]
    exact Nat.mod_eq_of_lt (Nat.xor_lt_two_pow (n := 8) ha hb)
  show Result.ok (Value.int .u8 (IntKind.u8.wrap (((BitVec.ofNat 8 a.toNat) ^^^ (BitVec.ofNat 8 b.toNat)).toNat : Int))) w = _
  rw [h]
theorem bin_and_u8 (a b : UInt8) : Bin P .and t x y (V8 a) (V8 b) (V8 (a &&& b)) := bin_of_int fun w => by
  simp only [binOp, Op.intBits, ofInt_nat]
  have h : (IntKind.u8.wrap (((BitVec.ofNat 8 a.toNat) &&& (BitVec.ofNat 8 b.toNat)).toNat : Int)) = (((a &&& b).toNat : Nat) : Int) := by
    rw [wrap_u8]; congr 1
    have ha := lt_u8 a; have hb := lt_u8 b
    rw [BitVec.toNat_and, BitVec.toNat_ofNat, BitVec.toNat_ofNat, Nat.mod_eq_of_lt ha, Nat.mod_eq_of_lt hb, UInt8.toNat_and]
    exact Nat.mod_eq_of_lt (Nat.and_lt_two_pow (n := 8) _ hb)
  show Result.ok (Value.int .u8 (IntKind.u8.wrap (((BitVec.ofNat 8 a.toNat) &&& (BitVec.ofNat 8 b.toNat)).toNat : Int))) w = _
  rw [h]
theorem bin_or_u8 (a b : UInt8) : Bin P .or t x y (V8 a) (V8 b) (V8 (a ||| b)) := bin_of_int fun w => by
  simp only [binOp, Op.intBits, ofInt_nat]
  have h : (IntKind.u8.wrap (((BitVec.ofNat 8 a.toNat) ||| (BitVec.ofNat 8 b.toNat)).toNat : Int)) = (((a ||| b).toNat : Nat) : Int) := by
    rw [wrap_u8]; congr 1
    have ha := lt_u8 a; have hb := lt_u8 b
    rw [BitVec.toNat_or, BitVec.toNat_ofNat, BitVec.toNat_ofNat, Nat.mod_eq_of_lt ha, Nat.mod_eq_of_lt hb, UInt8.toNat_or]
    exact Nat.mod_eq_of_lt (Nat.or_lt_two_pow (n := 8) ha hb)
  show Result.ok (Value.int .u8 (IntKind.u8.wrap (((BitVec.ofNat 8 a.toNat) ||| (BitVec.ofNat 8 b.toNat)).toNat : Int))) w = _
  rw [h]
theorem bin_add_u8 (a b : UInt8) : Bin P .add t x y (V8 a) (V8 b) (V8 (a + b)) := bin_of_int fun w => by
  show Result.ok (Value.int .u8 (IntKind.u8.wrap ((a.toNat : Int) + (b.toNat : Int)))) w = _
  rw [show ((a.toNat : Int) + (b.toNat : Int)) = ((a.toNat + b.toNat : Nat) : Int) by simp, wrap_u8]
  show Result.ok (Value.int .u8 ((((a.toNat + b.toNat) % 256 : Nat)) : Int)) w = Result.ok (Value.int .u8 (((a + b).toNat : Nat) : Int)) w
  rw [UInt8.toNat_add]
theorem bin_mul_u8 (a b : UInt8) : Bin P .mul t x y (V8 a) (V8 b) (V8 (a * b)) := bin_of_int fun w => by
  show Result.ok (Value.int .u8 (IntKind.u8.wrap ((a.toNat : Int) * (b.toNat : Int)))) w = _
  rw [show ((a.toNat : Int) * (b.toNat : Int)) = ((a.toNat * b.toNat : Nat) : Int) by simp, wrap_u8]
  show Result.ok (Value.int .u8 ((((a.toNat * b.toNat) % 256 : Nat)) : Int)) w = Result.ok (Value.int .u8 (((a * b).toNat : Nat) : Int)) w
  rw [UInt8.toNat_mul]
theorem bin_sub_u8 (a b : UInt8) : Bin P .sub t x y (V8 a) (V8 b) (V8 (a - b)) := bin_of_int fun w => by
  show Result.ok (Value.int .u8 (IntKind.u8.wrap ((a.toNat : Int) - (b.toNat : Int)))) w = _
  have h : IntKind.u8.wrap ((a.toNat : Int) - (b.toNat : Int)) = (((a - b).toNat : Nat) : Int) := by
    have ha := lt_u8 a; have hb := lt_u8 b
    have hs : (a - b).toNat = (256 - b.toNat + a.toNat) % 256 := by rw [UInt8.toNat_sub]
    rw [hs]
    simp only [IntKind.wrap, IntKind.bits, IntKind.signed]
    simp
    omega
  rw [h]
theorem bin_shl_u8 (a : UInt8) (k : IntKind) (c : Nat) : Bin P .shl t x y (V8 a) (.int k (c : Int)) (V8 (if c < 8 then a <<< UInt8.ofNat c else 0)) := bin_of_int fun w => by
  have h0 : ¬ ((c : Int) < 0) := by omega
  show ((Op.shift .shl .u8 (a.toNat : Int) k (c : Int))).run P w = _
  have h : IntKind.u8.wrap ((a.toNat : Int) * 2 ^ (min c 8)) = (((if c < 8 then a <<< UInt8.ofNat c else 0).toNat : Nat) : Int) := by
    have e : (a.toNat : Int) * 2 ^ (min c 8) = ((a.toNat * 2 ^ (min c 8) : Nat) : Int) := by simp
    rw [e, wrap_u8]
    congr 1
    split
    · rename_i hc
      rw [Nat.min_eq_left (by omega), UInt8.toNat_shiftLeft, UInt8.toNat_ofNat', Nat.shiftLeft_eq]
      have hm : c % 256 % 8 = c := by rw [Nat.mod_eq_of_lt (a := c) (b := 256) (by omega)]; exact Nat.mod_eq_of_lt hc
      simp only [Nat.reducePow, hm]
    · rename_i hc
      rw [Nat.min_eq_right (by omega)]
      simp
  simp only [Op.shift, h0, if_false, Int.toNat_natCast, IntKind.bits, h]
  rfl
theorem bin_shr_u8 (a : UInt8) (k : IntKind) (c : Nat) : Bin P .shr t x y (V8 a) (.int k (c : Int)) (V8 (if c < 8 then a >>> UInt8.ofNat c else 0)) := bin_of_int fun w => by
  have h0 : ¬ ((c : Int) < 0) := by omega
  show ((Op.shift .shr .u8 (a.toNat : Int) k (c : Int))).run P w = _
  have h : Int.fdiv (a.toNat : Int) (2 ^ (min c 8)) = (((if c < 8 then a >>> UInt8.ofNat c else 0).toNat : Nat) : Int) := by
    have e : Int.fdiv (a.toNat : Int) (2 ^ (min c 8)) = ((a.toNat / 2 ^ (min c 8) : Nat) : Int) := by
      rw [show ((2 : Int) ^ (min c 8)) = ((2 ^ (min c 8) : Nat) : Int) by simp]
      rw [Int.natCast_ediv, Int.fdiv_eq_ediv_of_nonneg _ (Int.natCast_nonneg _)]
    rw [e]
    congr 1
    split
    · rename_i hc
      rw [Nat.min_eq_left (by omega), UInt8.toNat_shiftRight, UInt8.toNat_ofNat', Nat.shiftRight_eq_div_pow]
      have hm : c % 256 % 8 = c := by rw [Nat.mod_eq_of_lt (a := c) (b := 256) (by omega)]; exact Nat.mod_eq_of_lt hc
      simp only [Nat.reducePow, hm]
    · rename_i hc
      rw [Nat.min_eq_right (by omega)]
      have := lt_u8 a
      simp only [Nat.reducePow] at this ⊢
      rw [Nat.div_eq_of_lt this]; rfl
  simp only [Op.shift, h0, if_false, Int.toNat_natCast, IntKind.bits, h]
  rfl
theorem bin_shlc_u8 (c : Nat) (s : UInt8) (hc : c < 8) (hs : UInt8.ofNat c = s) (a : UInt8) {k : IntKind} : Bin P .shl t x y (V8 a) (.int k (c : Int)) (V8 (a <<< s)) := by
  have h := bin_shl_u8 (P := P) (t := t) (x := x) (y := y) a k c
  rw [if_pos hc, hs] at h
  exact h
theorem bin_shrc_u8 (c : Nat) (s : UInt8) (hc : c < 8) (hs : UInt8.ofNat c = s) (a : UInt8) {k : IntKind} : Bin P .shr t x y (V8 a) (.int k (c : Int)) (V8 (a >>> s)) := by
  have h := bin_shr_u8 (P := P) (t := t) (x := x) (y := y) a k c
  rw [if_pos hc, hs] at h
  exact h
theorem bin_quo_u8 (a b : UInt8) (hb : b ≠ 0) : Bin P .quo t x y (V8 a) (V8 b) (V8 (a / b)) := bin_of_int fun w => by
  have h0 : ¬ ((b.toNat : Int) = 0) := fun h => hb (UInt8.toNat_inj.1 (by simpa using h))
  show (Op.intDiv .quo .u8 (a.toNat : Int) (b.toNat : Int)).run P w = _
  have e : (a.toNat : Int).tdiv b.toNat = ((a.toNat / b.toNat : Nat) : Int) := by simp
  simp only [Op.intDiv, h0, if_false, e]
  show Result.ok (Value.int .u8 (IntKind.u8.wrap ((a.toNat / b.toNat : Nat) : Int))) w = _
  rw [wrap_u8, Nat.mod_eq_of_lt (Nat.lt_of_le_of_lt (Nat.div_le_self _ _) (lt_u8 a)), ← UInt8.toNat_div]
theorem bin_rem_u8 (a b : UInt8) (hb : b ≠ 0) : Bin P .rem t x y (V8 a) (V8 b) (V8 (a % b)) := bin_of_int fun w => by
  have h0 : ¬ ((b.toNat : Int) = 0) := fun h => hb (UInt8.toNat_inj.1 (by simpa using h))
  show (Op.intDiv .rem .u8 (a.toNat : Int) (b.toNat : Int)).run P w = _
  have e : (a.toNat : Int).tmod b.toNat = ((a.toNat % b.toNat : Nat) : Int) := by rw [Int.tmod_eq_emod_of_nonneg (by omega)]; simp
  simp only [Op.intDiv, h0, if_false, e]
  show Result.ok (Value.int .u8 ((a.toNat % b.toNat : Nat) : Int)) w = _
  rw [← UInt8.toNat_mod]
theorem bin_eql_u8 (a b : UInt8) : Bin P .eql t x y (V8 a) (V8 b) (BV (a == b)) := bin_of_int fun w => by
  show Result.ok (Value.bool ((a.toNat : Int) == (b.toNat : Int))) w = _
  have h : ((a.toNat : Int) == (b.toNat : Int)) = (a == b) := by rw [Bool.eq_iff_iff]; simp [← UInt8.toNat_inj]; omega
  rw [h]
theorem bin_neq_u8 (a b : UInt8) : Bin P .neq t x y (V8 a) (V8 b) (BV (a != b)) := bin_of_int fun w => by
  show Result.ok (Value.bool ((a.toNat : Int) != (b.toNat : Int))) w = _
  have h : ((a.toNat : Int) != (b.toNat : Int)) = (a != b) := by rw [Bool.eq_iff_iff]; simp [← UInt8.toNat_inj]; omega
  rw [h]
theorem bin_lss_u8 (a b : UInt8) : Bin P .lss t x y (V8 a) (V8 b) (BV (decide (a < b))) := bin_of_int fun w => by
  show Result.ok (Value.bool (decide ((a.toNat : Int) < (b.toNat : Int)))) w = _
  have h : (decide ((a.toNat : Int) < (b.toNat : Int))) = (decide (a < b)) := by rw [Bool.eq_iff_iff]; simp [UInt8.lt_iff_toNat_lt, UInt8.le_iff_toNat_le]
  rw [h]
theorem bin_leq_u8 (a b : UInt8) : Bin P .leq t x y (V8 a) (V8 b) (BV (decide (a ≤ b))) := bin_of_int fun w => by
  show Result.ok (Value.bool (decide ((a.toNat : Int) ≤ (b.toNat : Int)))) w = _
  have h : (decide ((a.toNat : Int) ≤ (b.toNat : Int))) = (decide (a ≤ b)) := by rw [Bool.eq_iff_iff]; simp [UInt8.lt_iff_toNat_lt, UInt8.le_iff_toNat_le]
  rw [h]
theorem bin_gtr_u8 (a b : UInt8) : Bin P .gtr t x y (V8 a) (V8 b) (BV (decide (a > b))) := bin_of_int fun w => by
  show Result.ok (Value.bool (decide ((a.toNat : Int) > (b.toNat : Int)))) w = _
  have h : (decide ((a.toNat : Int) > (b.toNat : Int))) = (decide (a > b)) := by rw [Bool.eq_iff_iff]; simp [GT.gt, GE.ge, UInt8.lt_iff_toNat_lt, UInt8.le_iff_toNat_le]
  rw [h]
theorem bin_geq_u8 (a b : UInt8) : Bin P .geq t x y (V8 a) (V8 b) (BV (decide (a ≥ b))) := bin_of_int fun w => by
  show Result.ok (Value.bool (decide ((a.toNat : Int) ≥ (b.toNat : Int)))) w = _
  have h : (decide ((a.toNat : Int) ≥ (b.toNat : Int))) = (decide (a ≥ b)) := by rw [Bool.eq_iff_iff]; simp [GT.gt, GE.ge, UInt8.lt_iff_toNat_lt, UInt8.le_iff_toNat_le]
  rw [h]
abbrev V16 (x : UInt16) : Value := .int .u16 ((x.toNat : Nat) : Int)
theorem wrap_u16 (n : Nat) : IntKind.u16.wrap (n : Int) = ((n % 65536 : Nat) : Int) := by simp [IntKind.wrap, IntKind.bits, IntKind.signed]
theorem lt_u16 (x : UInt16) : x.toNat < 65536 := x.toNat_lt
theorem bin_xor_u16 (a b : UInt16) : Bin P .xor t x y (V16 a) (V16 b) (V16 (a ^^^ b)) := bin_of_int fun w => by
  simp only [binOp, Op.intBits, ofInt_nat]
  have h : (IntKind.u16.wrap (((BitVec.ofNat 16 a.toNat) ^^^ (BitVec.ofNat 16 b.toNat)).toNat : Int)) = (((a ^^^ b).toNat : Nat) : Int) := by
    rw [wrap_u16]; congr 1
    have ha := lt_u16 a; have hb := lt_u16 b
    rw [BitVec.toNat_xor, BitVec.toNat_ofNat, BitVec.toNat_ofNat, Nat.mod_eq_of_lt ha, Nat.mod_eq_of_lt hb, UInt16.toNat_xor]
    exact Nat.mod_eq_of_lt (Nat.xor_lt_two_pow (n := 16) ha hb)
  show Result.ok (Value.int .u16 (IntKind.u16.wrap (((BitVec.ofNat 16 a.toNat) ^^^ (BitVec.ofNat 16 b.toNat)).toNat : Int))) w = _
  rw [h]
theorem bin_and_u16 (a b : UInt16) : Bin P .and t x y (V16 a) (V16 b) (V16 (a &&& b)) := bin_of_int fun w => by
  simp only [binOp, Op.intBits, ofInt_nat]
  have h : (IntKind.u16.wrap (((BitVec.ofNat 16 a.toNat) &&& (BitVec.ofNat 16 b.toNat)).toNat : Int)) = (((a &&& b).toNat : Nat) : Int) := by
    rw [wrap_u16]; congr 1
    have ha := lt_u16 a; have hb := lt_u16 b
    rw [BitVec.toNat_and, BitVec.toNat_ofNat, BitVec.toNat_ofNat, Nat.mod_eq_of_lt ha, Nat.mod_eq_of_lt hb, UInt16.toNat_and]
    exact Nat.mod_eq_of_lt (Nat.and_lt_two_pow (n := 16) _ hb)
  show Result.ok (Value.int .u16 (IntKind.u16.wrap (((BitVec.ofNat 16 a.toNat) &&& (BitVec.ofNat 16 b.toNat)).toNat : Int))) w = _
  rw [h]
theorem bin_or_u16 (a b : UInt16) : Bin P .or t x y (V16 a) (V16 b) (V16 (a ||| b)) := bin_of_int fun w => by
  simp only [binOp, Op.intBits, ofInt_nat]
  have h : (IntKind.u16.wrap (((BitVec.ofNat 16 a.toNat) ||| (BitVec.ofNat 16 b.toNat)).toNat : Int)) = (((a ||| b).toNat : Nat) : Int) := by
    rw [wrap_u16]; congr 1
    have ha := lt_u16 a; have hb := lt_u16 b
    rw [BitVec.toNat_or, BitVec.toNat_ofNat, BitVec.toNat_ofNat, Nat.mod_eq_of_lt ha, Nat.mod_eq_of_lt hb, UInt16.toNat_or]
    exact Nat.mod_eq_of_lt (Nat.or_lt_two_pow (n := 16) ha hb)
  show Result.ok (Value.int .u16 (IntKind.u16.wrap (((BitVec.ofNat 16 a.toNat) ||| (BitVec.ofNat 16 b.toNat)).toNat : Int))) w = _
  rw [h]
theorem bin_add_u16 (a b : UInt16) : Bin P .add t x y (V16 a) (V16 b) (V16 (a + b)) := bin_of_int fun w => by
  show Result.ok (Value.int .u16 (IntKind.u16.wrap ((a.toNat : Int) + (b.toNat : Int)))) w = _
  rw [show ((a.toNat : Int) + (b.toNat : Int)) = ((a.toNat + b.toNat : Nat) : Int) by simp, wrap_u16]
  show Result.ok (Value.int .u16 ((((a.toNat + b.toNat) % 65536 : Nat)) : Int)) w = Result.ok (Value.int .u16 (((a + b).toNat : Nat) : Int)) w
  rw [UInt16.toNat_add]
theorem bin_mul_u16 (a b : UInt16) : Bin P .mul t x y (V16 a) (V16 b) (V16 (a * b)) := bin_of_int fun w => by
  show Result.ok (Value.int .u16 (IntKind.u16.wrap ((a.toNat : Int) * (b.toNat : Int)))) w = _
  rw [show ((a.toNat : Int) * (b.toNat : Int)) = ((a.toNat * b.toNat : Nat) : Int) by simp, wrap_u16]
  show Result.ok (Value.int .u16 ((((a.toNat * b.toNat) % 65536 : Nat)) : Int)) w = Result.ok (Value.int .u16 (((a * b).toNat : Nat) : Int)) w
  rw [UInt16.toNat_mul]
theorem bin_sub_u16 (a b : UInt16) : Bin P .sub t x y (V16 a) (V16 b) (V16 (a - b)) := bin_of_int fun w => by
  show Result.ok (Value.int .u16 (IntKind.u16.wrap ((a.toNat : Int) - (b.toNat : Int)))) w = _
  have h : IntKind.u16.wrap ((a.toNat : Int) - (b.toNat : Int)) = (((a - b).toNat : Nat) : Int) := by
    have ha := lt_u16 a; have hb := lt_u16 b
    have hs : (a - b).toNat = (65536 - b.toNat + a.toNat) % 65536 := by rw [UInt16.toNat_sub]
    rw [hs]
    simp only [IntKind.wrap, IntKind.bits, IntKind.signed]
    simp
    omega
  rw [h]
theorem bin_shl_u16 (a : UInt16) (k : IntKind) (c : Nat) : Bin P .shl t x y (V16 a) (.int k (c : Int)) (V16 (if c < 16 then a <<< UInt16.ofNat c else 0)) := bin_of_int fun w => by
  have h0 : ¬ ((c : Int) < 0) := by omega
  show ((Op.shift .shl .u16 (a.toNat : Int) k (c : Int))).run P w = _
  have h : IntKind.u16.wrap ((a.toNat : Int) * 2 ^ (min c 16)) = (((if c < 16 then a <<< UInt16.ofNat c else 0).toNat : Nat) : Int) := by
    have e : (a.toNat : Int) * 2 ^ (min c 16) = ((a.toNat * 2 ^ (min c 16) : Nat) : Int) := by simp
    rw [e, wrap_u16]
    congr 1
    split
    · rename_i hc
      rw [Nat.min_eq_left (by omega), UInt16.toNat_shiftLeft, UInt16.toNat_ofNat', Nat.shiftLeft_eq]
      have hm : c % 65536 % 16 = c := by rw [Nat.mod_eq_of_lt (a := c) (b := 65536) (by omega)]; exact Nat.mod_eq_of_lt hc
      simp only [Nat.reducePow, hm]
    · rename_i hc
      rw [Nat.min_eq_right (by omega)]
      simp
  simp only [Op.shift, h0, if_false, Int.toNat_natCast, IntKind.bits, h]
  rfl
theorem bin_shr_u16 (a : UInt16) (k : IntKind) (c : Nat) : Bin P .shr t x y (V16 a) (.int k (c : Int)) (V16 (if c < 16 then a >>> UInt16.ofNat c else 0)) := bin_of_int fun w => by
  have h0 : ¬ ((c : Int) < 0) := by omega
  show ((Op.shift .shr .u16 (a.toNat : Int) k (c : Int))).run P w = _
  have h : Int.fdiv (a.toNat : Int) (2 ^ (min c 16)) = (((if c < 16 then a >>> UInt16.ofNat c else 0).toNat : Nat) : Int) := by
    have e : Int.fdiv (a.toNat : Int) (2 ^ (min c 16)) = ((a.toNat / 2 ^ (min c 16) : Nat) : Int) := by
      rw [show ((2 : Int) ^ (min c 16)) = ((2 ^ (min c 16) : Nat) : Int) by simp]
      rw [Int.natCast_ediv, Int.fdiv_eq_ediv_of_nonneg _ (Int.natCast_nonneg _)]
    rw [e]
    congr 1
    split
    · rename_i hc
      rw [Nat.min_eq_left (by omega), UInt16.toNat_shiftRight, UInt16.toNat_ofNat', Nat.shiftRight_eq_div_pow]
      have hm : c % 65536 % 16 = c := by rw [Nat.mod_eq_of_lt (a := c) (b := 65536) (by omega)]; exact Nat.mod_eq_of_lt hc
      simp only [Nat.reducePow, hm]
    · rename_i hc
      rw [Nat.min_eq_right (by omega)]
      have := lt_u16 a
      simp only [Nat.reducePow] at this ⊢
      rw [Nat.div_eq_of_lt this]; rfl
  simp only [Op.shift, h0, if_false, Int.toNat_natCast, IntKind.bits, h]
  rfl
theorem bin_shlc_u16 (c : Nat) (s : UInt16) (hc : c < 16) (hs : UInt16.ofNat c = s) (a : UInt16) {k : IntKind} : Bin P .shl t x y (V16 a) (.int k (c : Int)) (V16 (a <<< s)) := by
  have h := bin_shl_u16 (P := P) (t := t) (x := x) (y := y) a k c
  rw [if_pos hc, hs] at h
  exact h
theorem bin_shrc_u16 (c : Nat) (s : UInt16) (hc : c < 16) (hs : UInt16.ofNat c = s) (a : UInt16) {k : IntKind} : Bin P .shr t x y (V16 a) (.int k (c : Int)) (V16 (a >>> s)) := by
  have h := bin_shr_u16 (P := P) (t := t) (x := x) (y := y) a k c
  rw [if_pos hc, hs] at h
  exact h
theorem bin_quo_u16 (a b : UInt16) (hb : b ≠ 0) : Bin P .quo t x y (V16 a) (V16 b) (V16 (a / b)) := bin_of_int fun w => by
  have h0 : ¬ ((b.toNat : Int) = 0) := fun h => hb (UInt16.toNat_inj.1 (by simpa using h))
  show (Op.intDiv .quo .u16 (a.toNat : Int) (b.toNat : Int)).run P w = _
  have e : (a.toNat : Int).tdiv b.toNat = ((a.toNat / b.toNat : Nat) : Int) := by simp
  simp only [Op.intDiv, h0, if_false, e]
  show Result.ok (Value.int .u16 (IntKind.u16.wrap ((a.toNat / b.toNat : Nat) : Int))) w = _
  rw [wrap_u16, Nat.mod_eq_of_lt (Nat.lt_of_le_of_lt (Nat.div_le_self _ _) (lt_u16 a)), ← UInt16.toNat_div]
theorem bin_rem_u16 (a b : UInt16) (hb : b ≠ 0) : Bin P .rem t x y (V16 a) (V16 b) (V16 (a % b)) := bin_of_int fun w => by
  have h0 : ¬ ((b.toNat : Int) = 0) := fun h => hb (UInt16.toNat_inj.1 (by simpa using h))
  show (Op.intDiv .rem .u16 (a.toNat : Int) (b.toNat : Int)).run P w = _
  have e : (a.toNat : Int).tmod b.toNat = ((a.toNat % b.toNat : Nat) : Int) := by rw [Int.tmod_eq_emod_of_nonneg (by omega)]; simp
  simp only [Op.intDiv, h0, if_false, e]
  show Result.ok (Value.int .u16 ((a.toNat % b.toNat : Nat) : Int)) w = _
  rw [← UInt16.toNat_mod]
theorem bin_eql_u16 (a b : UInt16) : Bin P .eql t x y (V16 a) (V16 b) (BV (a == b)) := bin_of_int fun w => by
  show Result.ok (Value.bool ((a.toNat : Int) == (b.toNat : Int))) w = _
  have h : ((a.toNat : Int) == (b.toNat : Int)) = (a == b) := by rw [Bool.eq_iff_iff]; simp [← UInt16.toNat_inj]; omega
  rw [h]
theorem bin_neq_u16 (a b : UInt16) : Bin P .neq t x y (V16 a) (V16 b) (BV (a != b)) := bin_of_int fun w => by
  show Result.ok (Value.bool ((a.toNat : Int) != (b.toNat : Int))) w = _
  have h : ((a.toNat : Int) != (b.toNat : Int)) = (a != b) := by rw [Bool.eq_iff_iff]; simp [← UInt16.toNat_inj]; omega
  rw [h]
theorem bin_lss_u16 (a b : UInt16) : Bin P .lss t x y (V16 a) (V16 b) (BV (decide (a < b))) := bin_of_int fun w => by
  show Result.ok (Value.bool (decide ((a.toNat : Int) < (b.toNat : Int)))) w = _
  have h : (decide ((a.toNat : Int) < (b.toNat : Int))) = (decide (a < b)) := by rw [Bool.eq_iff_iff]; simp [UInt16.lt_iff_toNat_lt, UInt16.le_iff_toNat_le]
  rw [h]
theorem bin_leq_u16 (a b : UInt16) : Bin P .leq t x y (V16 a) (V16 b) (BV (decide (a ≤ b))) := bin_of_int fun w => by
  show Result.ok (Value.bool (decide ((a.toNat : Int) ≤ (b.toNat : Int)))) w = _
  have h : (decide ((a.toNat : Int) ≤ (b.toNat : Int))) = (decide (a ≤ b)) := by rw [Bool.eq_iff_iff]; simp [UInt16.lt_iff_toNat_lt, UInt16.le_iff_toNat_le]
  rw [h]
theorem bin_gtr_u16 (a b : UInt16) : Bin P .gtr t x y (V16 a) (V16 b) (BV (decide (a > b))) := bin_of_int fun w => by
  show Result.ok (Value.bool (decide ((a.toNat : Int) > (b.toNat : Int)))) w = _
  have h : (decide ((a.toNat : Int) > (b.toNat : Int))) = (decide (a > b)) := by rw [Bool.eq_iff_iff]; simp [GT.gt, GE.ge, UInt16.lt_iff_toNat_lt, UInt16.le_iff_toNat_le]
  rw [h]
theorem bin_geq_u16 (a b : UInt16) : Bin P .geq t x y (V16 a) (V16 b) (BV (decide (a ≥ b))) := bin_of_int fun w => by
  show Result.ok (Value.bool (decide ((a.toNat : Int) ≥ (b.toNat : Int)))) w = _
  have h : (decide ((a.toNat : Int) ≥ (b.toNat : Int))) = (decide (a ≥ b)) := by rw [Bool.eq_iff_iff]; simp [GT.gt, GE.ge, UInt16.lt_iff_toNat_lt, UInt16.le_iff_toNat_le]
  rw [h]
abbrev V32 (x : UInt32) : Value := .int .u32 ((x.toNat : Nat) : Int)
theorem wrap_u32 (n : Nat) : IntKind.u32.wrap (n : Int) = ((n % 4294967296 : Nat) : Int) := by simp [IntKind.wrap, IntKind.bits, IntKind.signed]
theorem lt_u32 (x : UInt32) : x.toNat < 4294967296 := x.toNat_lt
theorem bin_xor_u32 (a b : UInt32) : Bin P .xor t x y (V32 a) (V32 b) (V32 (a ^^^ b)) := bin_of_int fun w => by
  simp only [binOp, Op.intBits, ofInt_nat]
  have h : (IntKind.u32.wrap (((BitVec.ofNat 32 a.toNat) ^^^ (BitVec.ofNat 32 b.toNat)).toNat : Int)) = (((a ^^^ b).toNat : Nat) : Int) := by
    rw [wrap_u32]; congr 1
    have ha := lt_u32 a; have hb := lt_u32 b
    rw [BitVec.toNat_xor, BitVec.toNat_ofNat, BitVec.toNat_ofNat, Nat.mod_eq_of_lt ha, Nat.mod_eq_of_lt hb, UInt32.toNat_xor]
    exact Nat.mod_eq_of_lt (Nat.xor_lt_two_pow (n := 32) ha hb)
  show Result.ok (Value.int .u32 (IntKind.u32.wrap (((BitVec.ofNat 32 a.toNat) ^^^ (BitVec.ofNat 32 b.toNat)).toNat : Int))) w = _
  rw [h]
theorem bin_and_u32 (a b : UInt32) : Bin P .and t x y (V32 a) (V32 b) (V32 (a &&& b)) := bin_of_int fun w => by
  simp only [binOp, Op.intBits, ofInt_nat]
  have h : (IntKind.u32.wrap (((BitVec.ofNat 32 a.toNat) &&& (BitVec.ofNat 32 b.toNat)).toNat : Int)) = (((a &&& b).toNat : Nat) : Int) := by
    rw [wrap_u32]; congr 1
    have ha := lt_u32 a; have hb := lt_u32 b
    rw [BitVec.toNat_and, BitVec.toNat_ofNat, BitVec.toNat_ofNat, Nat.mod_eq_of_lt ha, Nat.mod_eq_of_lt hb, UInt32.toNat_and]
    exact Nat.mod_eq_of_lt (Nat.and_lt_two_pow (n := 32) _ hb)
  show Result.ok (Value.int .u32 (IntKind.u32.wrap (((BitVec.ofNat 32 a.toNat) &&& (BitVec.ofNat 32 b.toNat)).toNat : Int))) w = _
  rw [h]
theorem bin_or_u32 (a b : UInt32) : Bin P .or t x y (V32 a) (V32 b) (V32 (a ||| b)) := bin_of_int fun w => by
  simp only [binOp, Op.intBits, ofInt_nat]
  have h : (IntKind.u32.wrap (((BitVec.ofNat 32 a.toNat) ||| (BitVec.ofNat 32 b.toNat)).toNat : Int)) = (((a ||| b).toNat : Nat) : Int) := by
    rw [wrap_u32]; congr 1
    have ha := lt_u32 a; have hb := lt_u32 b
    rw [BitVec.toNat_or, BitVec.toNat_ofNat, BitVec.toNat_ofNat, Nat.mod_eq_of_lt ha, Nat.mod_eq_of_lt hb, UInt32.toNat_or]
    exact Nat.mod_eq_of_lt (Nat.or_lt_two_pow (n := 32) ha hb)
  show Result.ok (Value.int .u32 (IntKind.u32.wrap (((BitVec.ofNat 32 a.toNat) ||| (BitVec.ofNat 32 b.toNat)).toNat : Int))) w = _
  rw [h]
theorem bin_add_u32 (a b : UInt32) : Bin P .add t x y (V32 a) (V32 b) (V32 (a + b)) := bin_of_int fun w => by
  show Result.ok (Value.int .u32 (IntKind.u32.wrap ((a.toNat : Int) + (b.toNat : Int)))) w = _
  rw [show ((a.toNat : Int) + (b.toNat : Int)) = ((a.toNat + b.toNat : Nat) : Int) by simp, wrap_u32]
  show Result.ok (Value.int .u32 ((((a.toNat + b.toNat) % 4294967296 : Nat)) : Int)) w = Result.ok (Value.int .u32 (((a + b).toNat : Nat) : Int)) w
  rw [UInt32.toNat_add]
theorem bin_mul_u32 (a b : UInt32) : Bin P .mul t x y (V32 a) (V32 b) (V32 (a * b)) := bin_of_int fun w => by
  show Result.ok (Value.int .u32 (IntKind.u32.wrap ((a.toNat : Int) * (b.toNat : Int)))) w = _
  rw [show ((a.toNat : Int) * (b.toNat : Int)) = ((a.toNat * b.toNat : Nat) : Int) by simp, wrap_u32]
  show Result.ok (Value.int .u32 ((((a.toNat * b.toNat) % 4294967296 : Nat)) : Int)) w = Result.ok (Value.int .u32 (((a * b).toNat : Nat) : Int)) w
  rw [UInt32.toNat_mul]
theorem bin_sub_u32 (a b : UInt32) : Bin P .sub t x y (V32 a) (V32 b) (V32 (a - b)) := bin_of_int fun w => by
  show Result.ok (Value.int .u32 (IntKind.u32.wrap ((a.toNat : Int) - (b.toNat : Int)))) w = _
  have h : IntKind.u32.wrap ((a.toNat : Int) - (b.toNat : Int)) = (((a - b).toNat : Nat) : Int) := by
    have ha := lt_u32 a; have hb := lt_u32 b
    have hs : (a - b).toNat = (4294967296 - b.toNat + a.toNat) % 4294967296 := by rw [UInt32.toNat_sub]
    rw [hs]
    simp only [IntKind.wrap, IntKind.bits, IntKind.signed]
    simp
    omega
  rw [h]
theorem bin_shl_u32 (a : UInt32) (k : IntKind) (c : Nat) : Bin P .shl t x y (V32 a) (.int k (c : Int)) (V32 (if c < 32 then a <<< UInt32.ofNat c else 0)) := bin_of_int fun w => by
  have h0 : ¬ ((c : Int) < 0) := by omega
  show ((Op.shift .shl .u32 (a.toNat : Int) k (c : Int))).run P w = _
  have h : IntKind.u32.wrap ((a.toNat : Int) * 2 ^ (min c 32)) = (((if c < 32 then a <<< UInt32.ofNat c else 0).toNat : Nat) : Int) := by
    have e : (a.toNat : Int) * 2 ^ (min c 32) = ((a.toNat * 2 ^ (min c 32) : Nat) : Int) := by simp
    rw [e, wrap_u32]
    congr 1
    split
    · rename_i hc
      rw [Nat.min_eq_left (by omega), UInt32.toNat_shiftLeft, UInt32.toNat_ofNat', Nat.shiftLeft_eq]
      have hm : c % 4294967296 % 32 = c := by rw [Nat.mod_eq_of_lt (a := c) (b := 4294967296) (by omega)]; exact Nat.mod_eq_of_lt hc
      simp only [Nat.reducePow, hm]
    · rename_i hc
      rw [Nat.min_eq_right (by omega)]
      simp
  simp only [Op.shift, h0, if_false, Int.toNat_natCast, IntKind.bits, h]
  rfl
theorem bin_shr_u32 (a : UInt32) (k : IntKind) (c : Nat) : Bin P .shr t x y (V32 a) (.int k (c : Int)) (V32 (if c < 32 then a >>> UInt32.ofNat c else 0)) := bin_of_int fun w => by
  have h0 : ¬ ((c : Int) < 0) := by omega
  show ((Op.shift .shr .u32 (a.toNat : Int) k (c : Int))).run P w = _
  have h : Int.fdiv (a.toNat : Int) (2 ^ (min c 32)) = (((if c < 32 then a >>> UInt32.ofNat c else 0).toNat : Nat) : Int) := by
    have e : Int.fdiv (a.toNat : Int) (2 ^ (min c 32)) = ((a.toNat / 2 ^ (min c 32) : Nat) : Int) := by
      rw [show ((2 : Int) ^ (min c 32)) = ((2 ^ (min c 32) : Nat) : Int) by simp]
      rw [Int.natCast_ediv, Int.fdiv_eq_ediv_of_nonneg _ (Int.natCast_nonneg _)]
    rw [e]
    congr 1
    split
    · rename_i hc
      rw [Nat.min_eq_left (by omega), UInt32.toNat_shiftRight, UInt32.toNat_ofNat', Nat.shiftRight_eq_div_pow]
      have hm : c % 4294967296 % 32 = c := by rw [Nat.mod_eq_of_lt (a := c) (b := 4294967296) (by omega)]; exact Nat.mod_eq_of_lt hc
      simp only [Nat.reducePow, hm]
    · rename_i hc
      rw [Nat.min_eq_right (by omega)]
      have := lt_u32 a
      simp only [Nat.reducePow] at this ⊢
      rw [Nat.div_eq_of_lt this]; rfl
  simp only [Op.shift, h0, if_false, Int.toNat_natCast, IntKind.bits, h]
  rfl
theorem bin_shlc_u32 (c : Nat) (s : UInt32) (hc : c < 32) (hs : UInt32.ofNat c = s) (a : UInt32) {k : IntKind} : Bin P .shl t x y (V32 a) (.int k (c : Int)) (V32 (a <<< s)) := by
  have h := bin_shl_u32 (P := P) (t := t) (x := x) (y := y) a k c
  rw [if_pos hc, hs] at h
  exact h
theorem bin_shrc_u32 (c : Nat) (s : UInt32) (hc : c < 32) (hs : UInt32.ofNat c = s) (a : UInt32) {k : IntKind} : Bin P .shr t x y (V32 a) (.int k (c : Int)) (V32 (a >>> s)) := by
  have h := bin_shr_u32 (P := P) (t := t) (x := x) (y := y) a k c
  rw [if_pos hc, hs] at h
  exact h
theorem bin_quo_u32 (a b : UInt32) (hb : b ≠ 0) : Bin P .quo t x y (V32 a) (V32 b) (V32 (a / b)) := bin_of_int fun w => by
  have h0 : ¬ ((b.toNat : Int) = 0) := fun h => hb (UInt32.toNat_inj.1 (by simpa using h))
  show (Op.intDiv .quo .u32 (a.toNat : Int) (b.toNat : Int)).run P w = _
  have e : (a.toNat : Int).tdiv b.toNat = ((a.toNat / b.toNat : Nat) : Int) := by simp
  simp only [Op.intDiv, h0, if_false, e]
  show Result.ok (Value.int .u32 (IntKind.u32.wrap ((a.toNat / b.toNat : Nat) : Int))) w = _
  rw [wrap_u32, Nat.mod_eq_of_lt (Nat.lt_of_le_of_lt (Nat.div_le_self _ _) (lt_u32 a)), ← UInt32.toNat_div]
theorem bin_rem_u32 (a b : UInt32) (hb : b ≠ 0) : Bin P .rem t x y (V32 a) (V32 b) (V32 (a % b)) := bin_of_int fun w => by
  have h0 : ¬ ((b.toNat : Int) = 0) := fun h => hb (UInt32.toNat_inj.1 (by simpa using h))
  show (Op.intDiv .rem .u32 (a.toNat : Int) (b.toNat : Int)).run P w = _
  have e : (a.toNat : Int).tmod b.toNat = ((a.toNat % b.toNat : Nat) : Int) := by rw [Int.tmod_eq_emod_of_nonneg (by omega)]; simp
  simp only [Op.intDiv, h0, if_false, e]
  show Result.ok (Value.int .u32 ((a.toNat % b.toNat : Nat) : Int)) w = _
  rw [← UInt32.toNat_mod]
theorem bin_eql_u32 (a b : UInt32) : Bin P .eql t x y (V32 a) (V32 b) (BV (a == b)) := bin_of_int fun w => by
  show Result.ok (Value.bool ((a.toNat : Int) == (b.toNat : Int))) w = _
  have h : ((a.toNat : Int) == (b.toNat : Int)) = (a == b) := by rw [Bool.eq_iff_iff]; simp [← UInt32.toNat_inj]; omega
  rw [h]
theorem bin_neq_u32 (a b : UInt32) : Bin P .neq t x y (V32 a) (V32 b) (BV (a != b)) := bin_of_int fun w => by
  show Result.ok (Value.bool ((a.toNat : Int) != (b.toNat : Int))) w = _
  have h : ((a.toNat : Int) != (b.toNat : Int)) = (a != b) := by rw [Bool.eq_iff_iff]; simp [← UInt32.toNat_inj]; omega
  rw [h]
theorem bin_lss_u32 (a b : UInt32) : Bin P .lss t x y (V32 a) (V32 b) (BV (decide (a < b))) := bin_of_int fun w => by
  show Result.ok (Value.bool (decide ((a.toNat : Int) < (b.toNat : Int)))) w = _
  have h : (decide ((a.toNat : Int) < (b.toNat : Int))) = (decide (a < b)) := by rw [Bool.eq_iff_iff]; simp [UInt32.lt_iff_toNat_lt, UInt32.le_iff_toNat_le]
  rw [h]
theorem bin_leq_u32 (a b : UInt32) : Bin P .leq t x y (V32 a) (V32 b) (BV (decide (a ≤ b))) := bin_of_int fun w => by
  show Result.ok (Value.bool (decide ((a.toNat : Int) ≤ (b.toNat : Int)))) w = _
  have h : (decide ((a.toNat : Int) ≤ (b.toNat : Int))) = (decide (a ≤ b)) := by rw [Bool.eq_iff_iff]; simp [UInt32.lt_iff_toNat_lt, UInt32.le_iff_toNat_le]
  rw [h]
theorem bin_gtr_u32 (a b : UInt32) : Bin P .gtr t x y (V32 a) (V32 b) (BV (decide (a > b))) := bin_of_int fun w => by
  show Result.ok (Value.bool (decide ((a.toNat : Int) > (b.toNat : Int)))) w = _
  have h : (decide ((a.toNat : Int) > (b.toNat : Int))) = (decide (a > b)) := by rw [Bool.eq_iff_iff]; simp [GT.gt, GE.ge, UInt32.lt_iff_toNat_lt, UInt32.le_iff_toNat_le]
  rw [h]
theorem bin_geq_u32 (a b : UInt32) : Bin P .geq t x y (V32 a) (V32 b) (BV (decide (a ≥ b))) := bin_of_int fun w => by
  show Result.ok (Value.bool (decide ((a.toNat : Int) ≥ (b.toNat : Int)))) w = _
  have h : (decide ((a.toNat : Int) ≥ (b.toNat : Int))) = (decide (a ≥ b)) := by rw [Bool.eq_iff_iff]; simp [GT.gt, GE.ge, UInt32.lt_iff_toNat_lt, UInt32.le_iff_toNat_le]
  rw [h]
abbrev V64 (x : UInt64) : Value := .int .u64 ((x.toNat : Nat) : Int)
theorem wrap_u64 (n : Nat) : IntKind.u64.wrap (n : Int) = ((n % 18446744073709551616 : Nat) : Int) := by simp [IntKind.wrap, IntKind.bits, IntKind.signed]
theorem lt_u64 (x : UInt64) : x.toNat < 18446744073709551616 := x.toNat_lt
theorem bin_xor_u64 (a b : UInt64) : Bin P .xor t x y (V64 a) (V64 b) (V64 (a ^^^ b)) := bin_of_int fun w => by
  simp only [binOp, Op.intBits, ofInt_nat]
  have h : (IntKind.u64.wrap (((BitVec.ofNat 64 a.toNat) ^^^ (BitVec.ofNat 64 b.toNat)).toNat : Int)) = (((a ^^^ b).toNat : Nat) : Int) := by
    rw [wrap_u64]; congr 1
    have ha := lt_u64 a; have hb := lt_u64 b
    rw [BitVec.toNat_xor, BitVec.toNat_ofNat, BitVec.toNat_ofNat, Nat.mod_eq_of_lt ha, Nat.mod_eq_of_lt hb, UInt64.toNat_xor]
    exact Nat.mod_eq_of_lt (Nat.xor_lt_two_pow (n := 64) ha hb)
  show Result.ok (Value.int .u64 (IntKind.u64.wrap (((BitVec.ofNat 64 a.toNat) ^^^ (BitVec.ofNat 64 b.toNat)).toNat : Int))) w = _
  rw [h]
theorem bin_and_u64 (a b : UInt64) : Bin P .and t x y (V64 a) (V64 b) (V64 (a &&& b)) := bin_of_int fun w => by
  simp only [binOp, Op.intBits, ofInt_nat]
  have h : (IntKind.u64.wrap (((BitVec.ofNat 64 a.toNat) &&& (BitVec.ofNat 64 b.toNat)).toNat : Int)) = (((a &&& b).toNat : Nat) : Int) := by
    rw [wrap_u64]; congr 1
    have ha := lt_u64 a; have hb := lt_u64 b
    rw [BitVec.toNat_and, BitVec.toNat_ofNat, BitVec.toNat_ofNat, Nat.mod_eq_of_lt ha, Nat.mod_eq_of_lt hb, UInt64.toNat_and]
    exact Nat.mod_eq_of_lt (Nat.and_lt_two_pow (n := 64) _ hb)
  show Result.ok (Value.int .u64 (IntKind.u64.wrap (((BitVec.ofNat 64 a.toNat) &&& (BitVec.ofNat 64 b.toNat)).toNat : Int))) w = _
  rw [h]
theorem bin_or_u64 (a b : UInt64) : Bin P .or t x y (V64 a) (V64 b) (V64 (a ||| b)) := bin_of_int fun w => by
  simp only [binOp, Op.intBits, ofInt_nat]
  have h : (IntKind.u64.wrap (((BitVec.ofNat 64 a.toNat) ||| (BitVec.ofNat 64 b.toNat)).toNat : Int)) = (((a ||| b).toNat : Nat) : Int) := by
    rw [wrap_u64]; congr 1
    have ha := lt_u64 a; have hb := lt_u64 b
    rw [BitVec.toNat_or, BitVec.toNat_ofNat, BitVec.toNat_ofNat, Nat.mod_eq_of_lt ha, Nat.mod_eq_of_lt hb, UInt64.toNat_or]
    exact Nat.mod_eq_of_lt (Nat.or_lt_two_pow (n := 64) ha hb)
  show Result.ok (Value.int .u64 (IntKind.u64.wrap (((BitVec.ofNat 64 a.toNat) ||| (BitVec.ofNat 64 b.toNat)).toNat : Int))) w = _
  rw [h]
theorem bin_add_u64 (a b : UInt64) : Bin P .add t x y (V64 a) (V64 b) (V64 (a + b)) := bin_of_int fun w => by
  show Result.ok (Value.int .u64 (IntKind.u64.wrap ((a.toNat : Int) + (b.toNat : Int)))) w = _
  rw [show ((a.toNat : Int) + (b.toNat : Int)) = ((a.toNat + b.toNat : Nat) : Int) by simp, wrap_u64]
  show Result.ok (Value.int .u64 ((((a.toNat + b.toNat) % 18446744073709551616 : Nat)) : Int)) w = Result.ok (Value.int .u64 (((a + b).toNat : Nat) : Int)) w
  rw [UInt64.toNat_add]
theorem bin_mul_u64 (a b : UInt64) : Bin P .mul t x y (V64 a) (V64 b) (V64 (a * b)) := bin_of_int fun w => by
  show Result.ok (Value.int .u64 (IntKind.u64.wrap ((a.toNat : Int) * (b.toNat : Int)))) w = _
  rw [show ((a.toNat : Int) * (b.toNat : Int)) = ((a.toNat * b.toNat : Nat) : Int) by simp, wrap_u64]
  show Result.ok (Value.int .u64 ((((a.toNat * b.toNat) % 18446744073709551616 : Nat)) : Int)) w = Result.ok (Value.int .u64 (((a * b).toNat : Nat) : Int)) w
  rw [UInt64.toNat_mul]
theorem bin_sub_u64 (a b : UInt64) : Bin P .sub t x y (V64 a) (V64 b) (V64 (a - b)) := bin_of_int fun w => by
  show Result.ok (Value.int .u64 (IntKind.u64.wrap ((a.toNat : Int) - (b.toNat : Int)))) w = _
  have h : IntKind.u64.wrap ((a.toNat : Int) - (b.toNat : Int)) = (((a - b).toNat : Nat) : Int) := by
    have ha := lt_u64 a; have hb := lt_u64 b
    have hs : (a - b).toNat = (18446744073709551616 - b.toNat + a.toNat) % 18446744073709551616 := by rw [UInt64.toNat_sub]
    rw [hs]
    simp only [IntKind.wrap, IntKind.bits, IntKind.signed]
    simp
    omega
  rw [h]
theorem bin_shl_u64 (a : UInt64) (k : IntKind) (c : Nat) : Bin P .shl t x y (V64 a) (.int k (c : Int)) (V64 (if c < 64 then a <<< UInt64.ofNat c else 0)) := bin_of_int fun w => by
  have h0 : ¬ ((c : Int) < 0) := by omega
  show ((Op.shift .shl .u64 (a.toNat : Int) k (c : Int))).run P w = _
  have h : IntKind.u64.wrap ((a.toNat : Int) * 2 ^ (min c 64)) = (((if c < 64 then a <<< UInt64.ofNat c else 0).toNat : Nat) : Int) := by
    have e : (a.toNat : Int) * 2 ^ (min c 64) = ((a.toNat * 2 ^ (min c 64) : Nat) : Int) := by simp
    rw [e, wrap_u64]
    congr 1
    split
    · rename_i hc
      rw [Nat.min_eq_left (by omega), UInt64.toNat_shiftLeft, UInt64.toNat_ofNat', Nat.shiftLeft_eq]
      have hm : c % 18446744073709551616 % 64 = c := by rw [Nat.mod_eq_of_lt (a := c) (b := 18446744073709551616) (by omega)]; exact Nat.mod_eq_of_lt hc
      simp only [Nat.reducePow, hm]
    · rename_i hc
      rw [Nat.min_eq_right (by omega)]
      simp
  simp only [Op.shift, h0, if_false, Int.toNat_natCast, IntKind.bits, h]
  rfl
theorem bin_shr_u64 (a : UInt64) (k : IntKind) (c : Nat) : Bin P .shr t x y (V64 a) (.int k (c : Int)) (V64 (if c < 64 then a >>> UInt64.ofNat c else 0)) := bin_of_int fun w => by
  have h0 : ¬ ((c : Int) < 0) := by omega
  show ((Op.shift .shr .u64 (a.toNat : Int) k (c : Int))).run P w = _
  have h : Int.fdiv (a.toNat : Int) (2 ^ (min c 64)) = (((if c < 64 then a >>> UInt64.ofNat c else 0).toNat : Nat) : Int) := by
    have e : Int.fdiv (a.toNat : Int) (2 ^ (min c 64)) = ((a.toNat / 2 ^ (min c 64) : Nat) : Int) := by
      rw [show ((2 : Int) ^ (min c 64)) = ((2 ^ (min c 64) : Nat) : Int) by simp]
      rw [Int.natCast_ediv, Int.fdiv_eq_ediv_of_nonneg _ (Int.natCast_nonneg _)]
    rw [e]
    congr 1
    split
    · rename_i hc
      rw [Nat.min_eq_left (by omega), UInt64.toNat_shiftRight, UInt64.toNat_ofNat', Nat.shiftRight_eq_div_pow]
      have hm : c % 18446744073709551616 % 64 = c := by rw [Nat.mod_eq_of_lt (a := c) (b := 18446744073709551616) (by omega)]; exact Nat.mod_eq_of_lt hc
      simp only [Nat.reducePow, hm]
    · rename_i hc
      rw [Nat.min_eq_right (by omega)]
      have := lt_u64 a
      simp only [Nat.reducePow] at this ⊢
      rw [Nat.div_eq_of_lt this]; rfl
  simp only [Op.shift, h0, if_false, Int.toNat_natCast, IntKind.bits, h]
  rfl
theorem bin_shlc_u64 (c : Nat) (s : UInt64) (hc : c < 64) (hs : UInt64.ofNat c = s) (a : UInt64) {k : IntKind} : Bin P .shl t x y (V64 a) (.int k (c : Int)) (V64 (a <<< s)) := by
  have h := bin_shl_u64 (P := P) (t := t) (x := x) (y := y) a k c
  rw [if_pos hc, hs] at h
  exact h
theorem bin_shrc_u64 (c : Nat) (s : UInt64) (hc : c < 64) (hs : UInt64.ofNat c = s) (a : UInt64) {k : IntKind} : Bin P .shr t x y (V64 a) (.int k (c : Int)) (V64 (a >>> s)) := by
  have h := bin_shr_u64 (P := P) (t := t) (x := x) (y := y) a k c
  rw [if_pos hc, hs] at h
  exact h
theorem bin_quo_u64 (a b : UInt64) (hb : b ≠ 0) : Bin P .quo t x y (V64 a) (V64 b) (V64 (a / b)) := bin_of_int fun w => by
  have h0 : ¬ ((b.toNat : Int) = 0) := fun h => hb (UInt64.toNat_inj.1 (by simpa using h))
  show (Op.intDiv .quo .u64 (a.toNat : Int) (b.toNat : Int)).run P w = _
  have e : (a.toNat : Int).tdiv b.toNat = ((a.toNat / b.toNat : Nat) : Int) := by simp
  simp only [Op.intDiv, h0, if_false, e]
  show Result.ok (Value.int .u64 (IntKind.u64.wrap ((a.toNat / b.toNat : Nat) : Int))) w = _
  rw [wrap_u64, Nat.mod_eq_of_lt (Nat.lt_of_le_of_lt (Nat.div_le_self _ _) (lt_u64 a)), ← UInt64.toNat_div]
theorem bin_rem_u64 (a b : UInt64) (hb : b ≠ 0) : Bin P .rem t x y (V64 a) (V64 b) (V64 (a % b)) := bin_of_int fun w => by
  have h0 : ¬ ((b.toNat : Int) = 0) := fun h => hb (UInt64.toNat_inj.1 (by simpa using h))
  show (Op.intDiv .rem .u64 (a.toNat : Int) (b.toNat : Int)).run P w = _
  have e : (a.toNat : Int).tmod b.toNat = ((a.toNat % b.toNat : Nat) : Int) := by rw [Int.tmod_eq_emod_of_nonneg (by omega)]; simp
  simp only [Op.intDiv, h0, if_false, e]
  show Result.ok (Value.int .u64 ((a.toNat % b.toNat : Nat) : Int)) w = _
  rw [← UInt64.toNat_mod]
theorem bin_eql_u64 (a b : UInt64) : Bin P .eql t x y (V64 a) (V64 b) (BV (a == b)) := bin_of_int fun w => by
  show Result.ok (Value.bool ((a.toNat : Int) == (b.toNat : Int))) w = _
  have h : ((a.toNat : Int) == (b.toNat : Int)) = (a == b) := by rw [Bool.eq_iff_iff]; simp [← UInt64.toNat_inj]; omega
  rw [h]
theorem bin_neq_u64 (a b : UInt64) : Bin P .neq t x y (V64 a) (V64 b) (BV (a != b)) := bin_of_int fun w => by
  show Result.ok (Value.bool ((a.toNat : Int) != (b.toNat : Int))) w = _
  have h : ((a.toNat : Int) != (b.toNat : Int)) = (a != b) := by rw [Bool.eq_iff_iff]; simp [← UInt64.toNat_inj]; omega
  rw [h]
theorem bin_lss_u64 (a b : UInt64) : Bin P .lss t x y (V64 a) (V64 b) (BV (decide (a < b))) := bin_of_int fun w => by
  show Result.ok (Value.bool (decide ((a.toNat : Int) < (b.toNat : Int)))) w = _
  have h : (decide ((a.toNat : Int) < (b.toNat : Int))) = (decide (a < b)) := by rw [Bool.eq_iff_iff]; simp [UInt64.lt_iff_toNat_lt, UInt64.le_iff_toNat_le]
  rw [h]
theorem bin_leq_u64 (a b : UInt64) : Bin P .leq t x y (V64 a) (V64 b) (BV (decide (a ≤ b))) := bin_of_int fun w => by
  show Result.ok (Value.bool (decide ((a.toNat : Int) ≤ (b.toNat : Int)))) w = _
  have h : (decide ((a.toNat : Int) ≤ (b.toNat : Int))) = (decide (a ≤ b)) := by rw [Bool.eq_iff_iff]; simp [UInt64.lt_iff_toNat_lt, UInt64.le_iff_toNat_le]
  rw [h]
theorem bin_gtr_u64 (a b : UInt64) : Bin P .gtr t x y (V64 a) (V64 b) (BV (decide (a > b))) := bin_of_int fun w => by
  show Result.ok (Value.bool (decide ((a.toNat : Int) > (b.toNat : Int)))) w = _
  have h : (decide ((a.toNat : Int) > (b.toNat : Int))) = (decide (a > b)) := by rw [Bool.eq_iff_iff]; simp [GT.gt, GE.ge, UInt64.lt_iff_toNat_lt, UInt64.le_iff_toNat_le]
  rw [h]
theorem bin_geq_u64 (a b : UInt64) : Bin P .geq t x y (V64 a) (V64 b) (BV (decide (a ≥ b))) := bin_of_int fun w => by
  show Result.ok (Value.bool (decide ((a.toNat : Int) ≥ (b.toNat : Int)))) w = _
  have h : (decide ((a.toNat : Int) ≥ (b.toNat : Int))) = (decide (a ≥ b)) := by rw [Bool.eq_iff_iff]; simp [GT.gt, GE.ge, UInt64.lt_iff_toNat_lt, UInt64.le_iff_toNat_le]
  rw [h]

theorem ofNat_toNat8 (n : Nat) (h : n < 256) : (UInt8.ofNat n).toNat = n := by rw [UInt8.toNat_ofNat']; exact Nat.mod_eq_of_lt h
theorem ofNat_toNat16 (n : Nat) (h : n < 65536) : (UInt16.ofNat n).toNat = n := by rw [UInt16.toNat_ofNat']; exact Nat.mod_eq_of_lt h
theorem ofNat_toNat32 (n : Nat) (h : n < 4294967296) : (UInt32.ofNat n).toNat = n := by rw [UInt32.toNat_ofNat']; exact Nat.mod_eq_of_lt h
theorem ofNat_toNat64 (n : Nat) (h : n < 18446744073709551616) : (UInt64.ofNat n).toNat = n := by rw [UInt64.toNat_ofNat']; exact Nat.mod_eq_of_lt h
end
end Go.Proofs.YtmoaddicejohgaaDoor
