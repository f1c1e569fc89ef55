/- Go's int, as Lean's Int or Nat; conversions between whole numbers; bools, strings, pointers under == -/
import Derived.Test.YtmoaddicejohgaaDoorVals
import Derived.LaidEql
set_option linter.unusedSimpArgs false
set_option linter.unusedVariables false
namespace Go.Proofs.YtmoaddicejohgaaDoor
open Go

theorem wrap_i64_in (n : Int) (h1 : -9223372036854775808 ≤ n) (h2 : n < 9223372036854775808) : IntKind.i64.wrap n = n := by
  simp only [IntKind.wrap, IntKind.bits, IntKind.signed]
  simp
  omega

section
variable {P : Program} {t ty : TypeId} {x y : Operand}

theorem bin_add_i {m n : Int} (h1 : -9223372036854775808 ≤ m + n) (h2 : m + n < 9223372036854775808) : Bin P .add t x y (I64 m) (I64 n) (I64 (m + n)) := bin_of_int fun w => by
  show Result.ok (Value.int .i64 (IntKind.i64.wrap (m + n))) w = _
  rw [wrap_i64_in _ h1 h2]
theorem bin_sub_i {m n : Int} (h1 : -9223372036854775808 ≤ m - n) (h2 : m - n < 9223372036854775808) : Bin P .sub t x y (I64 m) (I64 n) (I64 (m - n)) := bin_of_int fun w => by
  show Result.ok (Value.int .i64 (IntKind.i64.wrap (m - n))) w = _
  rw [wrap_i64_in _ h1 h2]
theorem bin_mul_i {m n : Int} (h1 : -9223372036854775808 ≤ m * n) (h2 : m * n < 9223372036854775808) : Bin P .mul t x y (I64 m) (I64 n) (I64 (m * n)) := bin_of_int fun w => by
  show Result.ok (Value.int .i64 (IntKind.i64.wrap (m * n))) w = _
  rw [wrap_i64_in _ h1 h2]
theorem bin_add_n {m n : Nat} (h : m + n < 9223372036854775808) : Bin P .add t x y (I64 m) (I64 n) (I64 (m + n : Nat)) := by
  have := bin_add_i (P := P) (t := t) (x := x) (y := y) (m := m) (n := n) (by omega) (by omega)
  rwa [show ((m : Int) + n) = ((m + n : Nat) : Int) by omega] at this
theorem bin_sub_n {m n : Nat} (h : n ≤ m) (hm : m < 9223372036854775808) : Bin P .sub t x y (I64 m) (I64 n) (I64 (m - n : Nat)) := by
  have := bin_sub_i (P := P) (t := t) (x := x) (y := y) (m := m) (n := n) (by omega) (by omega)
  rwa [show ((m : Int) - n) = ((m - n : Nat) : Int) by omega] at this
theorem bin_mul_n {m n : Nat} (h : m * n < 9223372036854775808) : Bin P .mul t x y (I64 m) (I64 n) (I64 (m * n : Nat)) := by
  have e : (m : Int) * n = ((m * n : Nat) : Int) := by simp
  have := bin_mul_i (P := P) (t := t) (x := x) (y := y) (m := m) (n := n) (by rw [e]; omega) (by rw [e]; omega)
  rwa [e] at this
theorem bin_quo_n {m n : Nat} (hn : 0 < n) (hm : m < 9223372036854775808) : Bin P .quo t x y (I64 m) (I64 n) (I64 (m / n : Nat)) := bin_of_int fun w => by
  have h0 : ¬ ((n : Int) = 0) := by omega
  show (Op.intDiv .quo .i64 (m : Int) (n : Int)).run P w = _
  have e : (m : Int).tdiv n = ((m / n : Nat) : Int) := by simp
  have hd : m / n ≤ m := Nat.div_le_self _ _
  simp only [Op.intDiv, h0, if_false, e]
  show Result.ok (Value.int .i64 (IntKind.i64.wrap ((m / n : Nat) : Int))) w = _
  rw [wrap_i64_in _ (by have := Int.natCast_nonneg (m / n); omega) (by have : ((m / n : Nat) : Int) ≤ m := by exact_mod_cast hd
                                                                       omega)]
theorem bin_rem_n {m n : Nat} (hn : 0 < n) : Bin P .rem t x y (I64 m) (I64 n) (I64 (m % n : Nat)) := bin_of_int fun w => by
  have h0 : ¬ ((n : Int) = 0) := by omega
  show (Op.intDiv .rem .i64 (m : Int) (n : Int)).run P w = _
  have e : (m : Int).tmod n = ((m % n : Nat) : Int) := by rw [Int.tmod_eq_emod_of_nonneg (by omega)]; simp
  simp only [Op.intDiv, h0, if_false, e]
  rfl
theorem bin_shl_n {m c : Nat} {k : IntKind} (hc : c < 64) (h : m * 2 ^ c < 9223372036854775808) : Bin P .shl t x y (I64 m) (.int k (c : Int)) (I64 (m * 2 ^ c : Nat)) := bin_of_int fun w => by
  have h0 : ¬ ((c : Int) < 0) := by omega
  show (Op.shift .shl .i64 (m : Int) k (c : Int)).run P w = _
  have e : (m : Int) * 2 ^ (min c 64) = ((m * 2 ^ c : Nat) : Int) := by rw [Nat.min_eq_left (by omega)]; simp
  simp only [Op.shift, h0, if_false, Int.toNat_natCast, IntKind.bits, e, wrap_i64_in _ (show (-9223372036854775808 : Int) ≤ ((m * 2 ^ c : Nat) : Int) by omega) (by omega)]
  rfl
theorem bin_shr_n {m c : Nat} {k : IntKind} (hc : c < 64) : Bin P .shr t x y (I64 m) (.int k (c : Int)) (I64 (m / 2 ^ c : Nat)) := bin_of_int fun w => by
  have h0 : ¬ ((c : Int) < 0) := by omega
  show (Op.shift .shr .i64 (m : Int) k (c : Int)).run P w = _
  have e : Int.fdiv (m : Int) (2 ^ (min c 64)) = ((m / 2 ^ c : Nat) : Int) := by
    rw [Nat.min_eq_left (by omega), show ((2 : Int) ^ c) = ((2 ^ c : Nat) : Int) by simp]
    rw [Int.natCast_ediv, Int.fdiv_eq_ediv_of_nonneg _ (Int.natCast_nonneg _)]
  simp only [Op.shift, h0, if_false, Int.toNat_natCast, IntKind.bits, e]
  rfl
/-- The test of an int that is below 0 or not. -/

theorem bin_eql_i {m n : Int} : Bin P .eql t x y (I64 m) (I64 n) (BV (m == n)) := bin_of_int fun w => rfl
theorem bin_eql_n {m n : Nat} : Bin P .eql t x y (I64 m) (I64 n) (BV (m == n)) := by
  have h := bin_eql_i (P := P) (t := t) (x := x) (y := y) (m := m) (n := n)
  have e : ((m : Int) == (n : Int)) = (m == n) := by rw [Bool.eq_iff_iff]; simp; omega
  rwa [e] at h
theorem bin_neq_i {m n : Int} : Bin P .neq t x y (I64 m) (I64 n) (BV (m != n)) := bin_of_int fun w => rfl
theorem bin_neq_n {m n : Nat} : Bin P .neq t x y (I64 m) (I64 n) (BV (m != n)) := by
  have h := bin_neq_i (P := P) (t := t) (x := x) (y := y) (m := m) (n := n)
  have e : ((m : Int) != (n : Int)) = (m != n) := by rw [Bool.eq_iff_iff]; simp; omega
  rwa [e] at h
theorem bin_lss_i {m n : Int} : Bin P .lss t x y (I64 m) (I64 n) (BV (decide (m < n))) := bin_of_int fun w => rfl
theorem bin_lss_n {m n : Nat} : Bin P .lss t x y (I64 m) (I64 n) (BV (decide (m < n))) := by
  have h := bin_lss_i (P := P) (t := t) (x := x) (y := y) (m := m) (n := n)
  have e : (decide ((m : Int) < (n : Int))) = (decide (m < n)) := by rw [Bool.eq_iff_iff]; simp
  rwa [e] at h
theorem bin_leq_i {m n : Int} : Bin P .leq t x y (I64 m) (I64 n) (BV (decide (m ≤ n))) := bin_of_int fun w => rfl
theorem bin_leq_n {m n : Nat} : Bin P .leq t x y (I64 m) (I64 n) (BV (decide (m ≤ n))) := by
  have h := bin_leq_i (P := P) (t := t) (x := x) (y := y) (m := m) (n := n)
  have e : (decide ((m : Int) ≤ (n : Int))) = (decide (m ≤ n)) := by rw [Bool.eq_iff_iff]; simp
  rwa [e] at h
theorem bin_gtr_i {m n : Int} : Bin P .gtr t x y (I64 m) (I64 n) (BV (decide (m > n))) := bin_of_int fun w => rfl
theorem bin_gtr_n {m n : Nat} : Bin P .gtr t x y (I64 m) (I64 n) (BV (decide (m > n))) := by
  have h := bin_gtr_i (P := P) (t := t) (x := x) (y := y) (m := m) (n := n)
  have e : (decide ((m : Int) > (n : Int))) = (decide (m > n)) := by rw [Bool.eq_iff_iff]; simp
  rwa [e] at h
theorem bin_geq_i {m n : Int} : Bin P .geq t x y (I64 m) (I64 n) (BV (decide (m ≥ n))) := bin_of_int fun w => rfl
theorem bin_geq_n {m n : Nat} : Bin P .geq t x y (I64 m) (I64 n) (BV (decide (m ≥ n))) := by
  have h := bin_geq_i (P := P) (t := t) (x := x) (y := y) (m := m) (n := n)
  have e : (decide ((m : Int) ≥ (n : Int))) = (decide (m ≥ n)) := by rw [Bool.eq_iff_iff]; simp
  rwa [e] at h

/-! bools, strings, pointers -/
theorem run_equalIn_bool (d : Nat) {a b : Bool} (hu : P.underlying t = some .bool) (w : World) : (Op.equalIn (d + 1) t (.bool a) (.bool b)).run P w = .ok (a == b) w := by
  simp [Op.equalIn, run_underlying hu]
theorem run_equalIn_pn (d : Nat) {e : TypeId} {p : Option Addr} (hu : P.underlying t = some (.pointer e)) (w : World) : (Op.equalIn (d + 1) t (.pointer p) (.pointer none)).run P w = .ok p.isNone w := by
  cases p <;> simp [Op.equalIn, run_underlying hu]
theorem run_binOp_eql {vx vy : Value} {b : Bool} (hb : binOp .eql t vx vy = do pure (.bool (← Op.equal t vx vy))) (h : ∀ d w, (Op.equalIn (d + 1) t vx vy).run P w = .ok b w) (w : World) : (binOp .eql t vx vy).run P w = .ok (.bool b) w := by
  rw [hb, Sem.run_bind]
  have := h 9999 w
  show (Sem.run P (Op.equalIn (9999 + 1) t vx vy) w).andThen _ = _
  rw [this]; rfl
theorem run_binOp_neq {vx vy : Value} {b : Bool} (hb : binOp .neq t vx vy = do pure (.bool !(← Op.equal t vx vy))) (h : ∀ d w, (Op.equalIn (d + 1) t vx vy).run P w = .ok b w) (w : World) : (binOp .neq t vx vy).run P w = .ok (.bool !b) w := by
  rw [hb, Sem.run_bind]
  have := h 9999 w
  show (Sem.run P (Op.equalIn (9999 + 1) t vx vy) w).andThen _ = _
  rw [this]; rfl
theorem bin_eql_b {a b : Bool} (hu : P.underlying t = some .bool) : Bin P .eql t x y (.bool a) (.bool b) (BV (a == b)) := bin_of_bool fun w => run_binOp_eql rfl (fun d w => run_equalIn_bool d hu w) w
theorem bin_neq_b {a b : Bool} (hu : P.underlying t = some .bool) : Bin P .neq t x y (.bool a) (.bool b) (BV (!(a == b))) := bin_of_bool fun w => run_binOp_neq rfl (fun d w => run_equalIn_bool d hu w) w
theorem bin_eql_s {a b : ByteArray} : Bin P .eql t x y (.string a) (.string b) (BV (a.data.toList == b.data.toList)) := bin_of_string fun w => by
  rw [binOp_string_eql, ByteArray.toList_eq, ByteArray.toList_eq]; rfl
theorem bin_neq_s {a b : ByteArray} : Bin P .neq t x y (.string a) (.string b) (BV (!(a.data.toList == b.data.toList))) := bin_of_string fun w => by
  rw [binOp_string_neq, ByteArray.toList_eq, ByteArray.toList_eq]; rfl
theorem bin_add_s {a b : ByteArray} (h : a.size + b.size < 9223372036854775808) : Bin P .add t x y (.string a) (.string b) (.string (a ++ b)) := bin_of_string fun w => by
  have h1 : ¬ (IntKind.i64.max < ((a.size + b.size : Nat) : Int)) := by
    rw [show IntKind.i64.max = 9223372036854775807 by decide]; omega
  simp only [binOp, Op.stringOp, gt_iff_lt, h1, if_false]
  rfl
theorem bin_eql_pn {e : TypeId} {p : Option Addr} (hu : P.underlying t = some (.pointer e)) : Bin P .eql t x y (.pointer p) (.pointer none) (BV p.isNone) := bin_of_pointer fun w => run_binOp_eql rfl (fun d w => run_equalIn_pn d hu w) w
theorem bin_neq_pn {e : TypeId} {p : Option Addr} (hu : P.underlying t = some (.pointer e)) : Bin P .neq t x y (.pointer p) (.pointer none) (BV !p.isNone) := bin_of_pointer fun w => run_binOp_neq rfl (fun d w => run_equalIn_pn d hu w) w

/-! conversions -/
theorem cnv_int {s : TypeId} {ds : TypeDesc} {k k0 : IntKind} {n : Int} (hs : P.underlying s = some ds) (hd : P.underlying t = some (.int k)) : Cnv P s t (.int k0 n) (.int k (k.wrap n)) := fun w => by
  simp only [convert, Sem.run_bind, run_underlying hs, run_underlying hd, Result.andThen_ok]
  cases ds <;> rfl

theorem cnv_u8_u8 {s : TypeId} {ds : TypeDesc} (a : UInt8) (hs : P.underlying s = some ds) (hd : P.underlying t = some (.int .u8)) : Cnv P s t (V8 a) (V8 a) := by
  have h := cnv_int (P := P) (k0 := .u8) (n := ((a.toNat : Nat) : Int)) hs hd
  rwa [wrap_u8, Nat.mod_eq_of_lt (lt_u8 a)] at h
theorem cnv_u8_u16 {s : TypeId} {ds : TypeDesc} (a : UInt8) (hs : P.underlying s = some ds) (hd : P.underlying t = some (.int .u16)) : Cnv P s t (V8 a) (V16 a.toUInt16) := by
  have h := cnv_int (P := P) (k0 := .u8) (n := ((a.toNat : Nat) : Int)) hs hd
  rw [wrap_u16, Nat.mod_eq_of_lt (by have := lt_u8 a; omega), ← UInt8.toNat_toUInt16] at h
  exact h
theorem cnv_u8_u32 {s : TypeId} {ds : TypeDesc} (a : UInt8) (hs : P.underlying s = some ds) (hd : P.underlying t = some (.int .u32)) : Cnv P s t (V8 a) (V32 a.toUInt32) := by
  have h := cnv_int (P := P) (k0 := .u8) (n := ((a.toNat : Nat) : Int)) hs hd
  rw [wrap_u32, Nat.mod_eq_of_lt (by have := lt_u8 a; omega), ← UInt8.toNat_toUInt32] at h
  exact h
theorem cnv_u8_u64 {s : TypeId} {ds : TypeDesc} (a : UInt8) (hs : P.underlying s = some ds) (hd : P.underlying t = some (.int .u64)) : Cnv P s t (V8 a) (V64 a.toUInt64) := by
  have h := cnv_int (P := P) (k0 := .u8) (n := ((a.toNat : Nat) : Int)) hs hd
  rw [wrap_u64, Nat.mod_eq_of_lt (by have := lt_u8 a; omega), ← UInt8.toNat_toUInt64] at h
  exact h
theorem cnv_n_u8 {s : TypeId} {ds : TypeDesc} {n : Nat} (hs : P.underlying s = some ds) (hd : P.underlying t = some (.int .u8)) : Cnv P s t (I64 n) (V8 (UInt8.ofNat n)) := by
  have h := cnv_int (P := P) (k0 := .i64) (n := (n : Int)) hs hd
  rw [wrap_u8] at h
  have e : (UInt8.ofNat n).toNat = n % 256 := UInt8.toNat_ofNat'
  rw [← e] at h
  exact h
theorem cnv_i_u8 {s : TypeId} {ds : TypeDesc} {n : Int} (hs : P.underlying s = some ds) (hd : P.underlying t = some (.int .u8)) : Cnv P s t (I64 n) (V8 (UInt8.ofNat (n % 256).toNat)) := by
  have h := cnv_int (P := P) (k0 := .i64) (n := n) hs hd
  have e : IntKind.u8.wrap n = (((UInt8.ofNat (n % 256).toNat).toNat : Nat) : Int) := by
    have e1 : (UInt8.ofNat (n % 256).toNat).toNat = (n % 256).toNat % 256 := UInt8.toNat_ofNat'
    rw [e1]
    simp only [IntKind.wrap, IntKind.bits, IntKind.signed]
    simp
    omega
  rw [e] at h
  exact h
theorem cnv_u8_n {s : TypeId} {ds : TypeDesc} (a : UInt8) (hs : P.underlying s = some ds) (hd : P.underlying t = some (.int .i64)) : Cnv P s t (V8 a) (I64 (a.toNat : Nat)) := by
  have h := cnv_int (P := P) (k0 := .u8) (n := ((a.toNat : Nat) : Int)) hs hd
  have := lt_u8 a
  rwa [wrap_i64_in _ (by omega) (by omega)] at h
theorem cnv_u16_u8 {s : TypeId} {ds : TypeDesc} (a : UInt16) (hs : P.underlying s = some ds) (hd : P.underlying t = some (.int .u8)) : Cnv P s t (V16 a) (V8 a.toUInt8) := by
  have h := cnv_int (P := P) (k0 := .u16) (n := ((a.toNat : Nat) : Int)) hs hd
  rw [wrap_u8] at h
  have e : (a.toUInt8).toNat = a.toNat % 256 := UInt16.toNat_toUInt8 a
  rw [← e] at h
  exact h
theorem cnv_u16_u16 {s : TypeId} {ds : TypeDesc} (a : UInt16) (hs : P.underlying s = some ds) (hd : P.underlying t = some (.int .u16)) : Cnv P s t (V16 a) (V16 a) := by
  have h := cnv_int (P := P) (k0 := .u16) (n := ((a.toNat : Nat) : Int)) hs hd
  rwa [wrap_u16, Nat.mod_eq_of_lt (lt_u16 a)] at h
theorem cnv_u16_u32 {s : TypeId} {ds : TypeDesc} (a : UInt16) (hs : P.underlying s = some ds) (hd : P.underlying t = some (.int .u32)) : Cnv P s t (V16 a) (V32 a.toUInt32) := by
  have h := cnv_int (P := P) (k0 := .u16) (n := ((a.toNat : Nat) : Int)) hs hd
  rw [wrap_u32, Nat.mod_eq_of_lt (by have := lt_u16 a; omega), ← UInt16.toNat_toUInt32] at h
  exact h
theorem cnv_u16_u64 {s : TypeId} {ds : TypeDesc} (a : UInt16) (hs : P.underlying s = some ds) (hd : P.underlying t = some (.int .u64)) : Cnv P s t (V16 a) (V64 a.toUInt64) := by
  have h := cnv_int (P := P) (k0 := .u16) (n := ((a.toNat : Nat) : Int)) hs hd
  rw [wrap_u64, Nat.mod_eq_of_lt (by have := lt_u16 a; omega), ← UInt16.toNat_toUInt64] at h
  exact h
theorem cnv_n_u16 {s : TypeId} {ds : TypeDesc} {n : Nat} (hs : P.underlying s = some ds) (hd : P.underlying t = some (.int .u16)) : Cnv P s t (I64 n) (V16 (UInt16.ofNat n)) := by
  have h := cnv_int (P := P) (k0 := .i64) (n := (n : Int)) hs hd
  rw [wrap_u16] at h
  have e : (UInt16.ofNat n).toNat = n % 65536 := UInt16.toNat_ofNat'
  rw [← e] at h
  exact h
theorem cnv_i_u16 {s : TypeId} {ds : TypeDesc} {n : Int} (hs : P.underlying s = some ds) (hd : P.underlying t = some (.int .u16)) : Cnv P s t (I64 n) (V16 (UInt16.ofNat (n % 65536).toNat)) := by
  have h := cnv_int (P := P) (k0 := .i64) (n := n) hs hd
  have e : IntKind.u16.wrap n = (((UInt16.ofNat (n % 65536).toNat).toNat : Nat) : Int) := by
    have e1 : (UInt16.ofNat (n % 65536).toNat).toNat = (n % 65536).toNat % 65536 := UInt16.toNat_ofNat'
    rw [e1]
    simp only [IntKind.wrap, IntKind.bits, IntKind.signed]
    simp
    omega
  rw [e] at h
  exact h
theorem cnv_u16_n {s : TypeId} {ds : TypeDesc} (a : UInt16) (hs : P.underlying s = some ds) (hd : P.underlying t = some (.int .i64)) : Cnv P s t (V16 a) (I64 (a.toNat : Nat)) := by
  have h := cnv_int (P := P) (k0 := .u16) (n := ((a.toNat : Nat) : Int)) hs hd
  have := lt_u16 a
  rwa [wrap_i64_in _ (by omega) (by omega)] at h
theorem cnv_u32_u8 {s : TypeId} {ds : TypeDesc} (a : UInt32) (hs : P.underlying s = some ds) (hd : P.underlying t = some (.int .u8)) : Cnv P s t (V32 a) (V8 a.toUInt8) := by
  have h := cnv_int (P := P) (k0 := .u32) (n := ((a.toNat : Nat) : Int)) hs hd
  rw [wrap_u8] at h
  have e : (a.toUInt8).toNat = a.toNat % 256 := UInt32.toNat_toUInt8 a
  rw [← e] at h
  exact h
theorem cnv_u32_u16 {s : TypeId} {ds : TypeDesc} (a : UInt32) (hs : P.underlying s = some ds) (hd : P.underlying t = some (.int .u16)) : Cnv P s t (V32 a) (V16 a.toUInt16) := by
  have h := cnv_int (P := P) (k0 := .u32) (n := ((a.toNat : Nat) : Int)) hs hd
  rw [wrap_u16] at h
  have e : (a.toUInt16).toNat = a.toNat % 65536 := UInt32.toNat_toUInt16 a
  rw [← e] at h
  exact h
theorem cnv_u32_u32 {s : TypeId} {ds : TypeDesc} (a : UInt32) (hs : P.underlying s = some ds) (hd : P.underlying t = some (.int .u32)) : Cnv P s t (V32 a) (V32 a) := by
  have h := cnv_int (P := P) (k0 := .u32) (n := ((a.toNat : Nat) : Int)) hs hd
  rwa [wrap_u32, Nat.mod_eq_of_lt (lt_u32 a)] at h
theorem cnv_u32_u64 {s : TypeId} {ds : TypeDesc} (a : UInt32) (hs : P.underlying s = some ds) (hd : P.underlying t = some (.int .u64)) : Cnv P s t (V32 a) (V64 a.toUInt64) := by
  have h := cnv_int (P := P) (k0 := .u32) (n := ((a.toNat : Nat) : Int)) hs hd
  rw [wrap_u64, Nat.mod_eq_of_lt (by have := lt_u32 a; omega), ← UInt32.toNat_toUInt64] at h
  exact h
theorem cnv_n_u32 {s : TypeId} {ds : TypeDesc} {n : Nat} (hs : P.underlying s = some ds) (hd : P.underlying t = some (.int .u32)) : Cnv P s t (I64 n) (V32 (UInt32.ofNat n)) := by
  have h := cnv_int (P := P) (k0 := .i64) (n := (n : Int)) hs hd
  rw [wrap_u32] at h
  have e : (UInt32.ofNat n).toNat = n % 4294967296 := UInt32.toNat_ofNat'
  rw [← e] at h
  exact h
theorem cnv_i_u32 {s : TypeId} {ds : TypeDesc} {n : Int} (hs : P.underlying s = some ds) (hd : P.underlying t = some (.int .u32)) : Cnv P s t (I64 n) (V32 (UInt32.ofNat (n % 4294967296).toNat)) := by
  have h := cnv_int (P := P) (k0 := .i64) (n := n) hs hd
  have e : IntKind.u32.wrap n = (((UInt32.ofNat (n % 4294967296).toNat).toNat : Nat) : Int) := by
    have e1 : (UInt32.ofNat (n % 4294967296).toNat).toNat = (n % 4294967296).toNat % 4294967296 := UInt32.toNat_ofNat'
    rw [e1]
    simp only [IntKind.wrap, IntKind.bits, IntKind.signed]
    simp
    omega
  rw [e] at h
  exact h
theorem cnv_u32_n {s : TypeId} {ds : TypeDesc} (a : UInt32) (hs : P.underlying s = some ds) (hd : P.underlying t = some (.int .i64)) : Cnv P s t (V32 a) (I64 (a.toNat : Nat)) := by
  have h := cnv_int (P := P) (k0 := .u32) (n := ((a.toNat : Nat) : Int)) hs hd
  have := lt_u32 a
  rwa [wrap_i64_in _ (by omega) (by omega)] at h
theorem cnv_u64_u8 {s : TypeId} {ds : TypeDesc} (a : UInt64) (hs : P.underlying s = some ds) (hd : P.underlying t = some (.int .u8)) : Cnv P s t (V64 a) (V8 a.toUInt8) := by
  have h := cnv_int (P := P) (k0 := .u64) (n := ((a.toNat : Nat) : Int)) hs hd
  rw [wrap_u8] at h
  have e : (a.toUInt8).toNat = a.toNat % 256 := UInt64.toNat_toUInt8 a
  rw [← e] at h
  exact h
theorem cnv_u64_u16 {s : TypeId} {ds : TypeDesc} (a : UInt64) (hs : P.underlying s = some ds) (hd : P.underlying t = some (.int .u16)) : Cnv P s t (V64 a) (V16 a.toUInt16) := by
  have h := cnv_int (P := P) (k0 := .u64) (n := ((a.toNat : Nat) : Int)) hs hd
  rw [wrap_u16] at h
  have e : (a.toUInt16).toNat = a.toNat % 65536 := UInt64.toNat_toUInt16 a
  rw [← e] at h
  exact h
theorem cnv_u64_u32 {s : TypeId} {ds : TypeDesc} (a : UInt64) (hs : P.underlying s = some ds) (hd : P.underlying t = some (.int .u32)) : Cnv P s t (V64 a) (V32 a.toUInt32) := by
  have h := cnv_int (P := P) (k0 := .u64) (n := ((a.toNat : Nat) : Int)) hs hd
  rw [wrap_u32] at h
  have e : (a.toUInt32).toNat = a.toNat % 4294967296 := UInt64.toNat_toUInt32 a
  rw [← e] at h
  exact h
theorem cnv_u64_u64 {s : TypeId} {ds : TypeDesc} (a : UInt64) (hs : P.underlying s = some ds) (hd : P.underlying t = some (.int .u64)) : Cnv P s t (V64 a) (V64 a) := by
  have h := cnv_int (P := P) (k0 := .u64) (n := ((a.toNat : Nat) : Int)) hs hd
  rwa [wrap_u64, Nat.mod_eq_of_lt (lt_u64 a)] at h
theorem cnv_n_u64 {s : TypeId} {ds : TypeDesc} {n : Nat} (hs : P.underlying s = some ds) (hd : P.underlying t = some (.int .u64)) : Cnv P s t (I64 n) (V64 (UInt64.ofNat n)) := by
  have h := cnv_int (P := P) (k0 := .i64) (n := (n : Int)) hs hd
  rw [wrap_u64] at h
  have e : (UInt64.ofNat n).toNat = n % 18446744073709551616 := UInt64.toNat_ofNat'
  rw [← e] at h
  exact h
theorem cnv_i_u64 {s : TypeId} {ds : TypeDesc} {n : Int} (hs : P.underlying s = some ds) (hd : P.underlying t = some (.int .u64)) : Cnv P s t (I64 n) (V64 (UInt64.ofNat (n % 18446744073709551616).toNat)) := by
  have h := cnv_int (P := P) (k0 := .i64) (n := n) hs hd
  have e : IntKind.u64.wrap n = (((UInt64.ofNat (n % 18446744073709551616).toNat).toNat : Nat) : Int) := by
    have e1 : (UInt64.ofNat (n % 18446744073709551616).toNat).toNat = (n % 18446744073709551616).toNat % 18446744073709551616 := UInt64.toNat_ofNat'
    rw [e1]
    simp only [IntKind.wrap, IntKind.bits, IntKind.signed]
    simp
    omega
  rw [e] at h
  exact h
theorem cnv_u64_n {s : TypeId} {ds : TypeDesc} (a : UInt64) (hs : P.underlying s = some ds) (hd : P.underlying t = some (.int .i64)) (ha : a.toNat < 9223372036854775808) : Cnv P s t (V64 a) (I64 (a.toNat : Nat)) := by
  have h := cnv_int (P := P) (k0 := .u64) (n := ((a.toNat : Nat) : Int)) hs hd
  rwa [wrap_i64_in _ (by omega) (by omega)] at h
theorem cnv_n_n {s : TypeId} {ds : TypeDesc} {n : Int} (hs : P.underlying s = some ds) (hd : P.underlying t = some (.int .i64)) (h1 : -9223372036854775808 ≤ n) (h2 : n < 9223372036854775808) : Cnv P s t (I64 n) (I64 n) := by
  have h := cnv_int (P := P) (k0 := .i64) (n := n) hs hd
  rwa [wrap_i64_in _ h1 h2] at h
end
end Go.Proofs.YtmoaddicejohgaaDoor
