/- Arguments of layer 10's laws, opened. No conditions. -/
import Derived.Test.YtmoaddicejohgaaDoorWide
import Derived.Test.YtmoaddicejohgaaDoorFacts
import Derived.Test.YtmoaddicejohgaaDoorOpen
set_option linter.unusedSimpArgs false
set_option linter.unusedVariables false
set_option maxRecDepth 100000
set_option maxHeartbeats 4000000
namespace Go.Proofs.YtmoaddicejohgaaDoor
open Go
open List (getD_cons_zero getD_cons_succ set_cons_zero set_cons_succ)

open Go.ChangeShapes Go.WideShapes Go.RowKit

theorem open_pack {H : Type} {enc : TypeId × Value → H} {w : World} {base : Nat} {spare : Nat → Bool} {held : Bool} {r : Reach} {b0 : Nat} {v : Value} {d : DataW H} {ps : List MemPlace} (hval : Value.okWide Tryd.prog w r b0 32 v) (h : DataW.Trod enc Tryd.prog w base spare held 32 v d ps) :
    ∃ (x0 : ByteArray) (x1 : ByteArray) (x2 : ByteArray) (x3 : ByteArray) (x4 : Int) (x5 : Int) (x6 : ByteArray) (x7 : Int) (x8 : Bool), v = .agg #[.string x0, .string x1, .string x2, .string x3, I64 x4, I64 x5, .string x6, I64 x7, BV x8] ∧ x0.size ≤ maxLen ∧ x1.size ≤ maxLen ∧ x2.size ≤ maxLen ∧ x3.size ≤ maxLen ∧ (-9223372036854775808 ≤ x4 ∧ x4 ≤ 9223372036854775807) ∧ (-9223372036854775808 ≤ x5 ∧ x5 ≤ 9223372036854775807) ∧ x6.size ≤ maxLen ∧ (-9223372036854775808 ≤ x7 ∧ x7 ≤ 9223372036854775807) := by
  obtain ⟨fuel, h⟩ := h
  unfold Value.okWide at hval
  rw [Tryd.underlying32] at hval
  obtain ⟨cs, rfl, hsz, _⟩ := hval
  have hct : Tryd.prog.cellsOf 32 = 9 := by have hst := sz32; unfold szc at hst; unfold Program.cellsOf; rw [hst]; rfl
  rw [hct] at hsz
  obtain ⟨_, _, g0⟩ := trod_field (ft := 30) (off := 0) (m := 3) Tryd.underlying32 h 0 rfl sz30
  obtain ⟨_, _, g0_0⟩ := trod_field (ft := 9) (off := 0) (m := 1) Tryd.underlying30 g0 0 rfl sz9
  obtain ⟨x0, e0, _, hx0⟩ := DataW.trod_string Tryd.underlying9 g0_0
  obtain ⟨_, _, g0_1⟩ := trod_field (ft := 9) (off := 1) (m := 1) Tryd.underlying30 g0 1 rfl sz9
  obtain ⟨x1, e1, _, hx1⟩ := DataW.trod_string Tryd.underlying9 g0_1
  obtain ⟨_, _, g0_2⟩ := trod_field (ft := 9) (off := 2) (m := 1) Tryd.underlying30 g0 2 rfl sz9
  obtain ⟨x2, e2, _, hx2⟩ := DataW.trod_string Tryd.underlying9 g0_2
  obtain ⟨_, _, g1⟩ := trod_field (ft := 9) (off := 3) (m := 1) Tryd.underlying32 h 1 rfl sz9
  obtain ⟨x3, e3, _, hx3⟩ := DataW.trod_string Tryd.underlying9 g1
  obtain ⟨_, _, g2⟩ := trod_field (ft := 3) (off := 4) (m := 1) Tryd.underlying32 h 2 rfl sz3
  obtain ⟨x4, e4, _, hw4⟩ := DataW.trod_int Tryd.underlying3 g2
  have hb4 := bounds_i64 hw4
  obtain ⟨_, _, g3⟩ := trod_field (ft := 3) (off := 5) (m := 1) Tryd.underlying32 h 3 rfl sz3
  obtain ⟨x5, e5, _, hw5⟩ := DataW.trod_int Tryd.underlying3 g3
  have hb5 := bounds_i64 hw5
  obtain ⟨_, _, g4⟩ := trod_field (ft := 9) (off := 6) (m := 1) Tryd.underlying32 h 4 rfl sz9
  obtain ⟨x6, e6, _, hx6⟩ := DataW.trod_string Tryd.underlying9 g4
  obtain ⟨_, _, g5⟩ := trod_field (ft := 3) (off := 7) (m := 1) Tryd.underlying32 h 5 rfl sz3
  obtain ⟨x7, e7, _, hw7⟩ := DataW.trod_int Tryd.underlying3 g5
  have hb7 := bounds_i64 hw7
  obtain ⟨_, _, g6⟩ := trod_field (ft := 4) (off := 8) (m := 1) Tryd.underlying32 h 6 rfl sz4
  obtain ⟨x8, e8, _⟩ := DataW.trod_bool Tryd.underlying4 g6
  refine ⟨x0, x1, x2, x3, x4, x5, x6, x7, x8, congrArg Value.agg (Array.ext' ?_), hx0, hx1, hx2, hx3, hb4, hb5, hx6, hb7⟩
  have hlen : cs.toList.length = 9 := by rw [Array.length_toList]; exact hsz
  simp only [Value.cells] at e0 e1 e2 e3 e4 e5 e6 e7 e8
  generalize cs.toList = L at *
  obtain ⟨c0, c1, c2, c3, c4, c5, c6, c7, c8, rfl⟩ : ∃ c0 c1 c2 c3 c4 c5 c6 c7 c8 : Value, L = [c0, c1, c2, c3, c4, c5, c6, c7, c8] := by
    match L, hlen with
    | [c0, c1, c2, c3, c4, c5, c6, c7, c8], _ => exact ⟨c0, c1, c2, c3, c4, c5, c6, c7, c8, rfl⟩
  simp only [List.drop_succ_cons, List.drop_zero, List.take_succ_cons, List.take_zero, List.cons.injEq, and_true] at e0 e1 e2 e3 e4 e5 e6 e7 e8
  subst e0 e1 e2 e3 e4 e5 e6 e7 e8
  rfl

theorem open_sealed {H : Type} {enc : TypeId × Value → H} {w : World} {base : Nat} {spare : Nat → Bool} {held : Bool} {r : Reach} {b0 : Nat} {v : Value} {d : DataW H} {ps : List MemPlace} (hval : Value.okWide Tryd.prog w r b0 41 v) (h : DataW.Trod enc Tryd.prog w base spare held 41 v d ps) :
    ∃ (x0 : ByteArray) (x1 : ByteArray) (x2 : ByteArray) (x3 : Value) (y3 : List UInt8) (x4 : Int) (x5 : Int), v = .agg #[.string x0, .string x1, .string x2, x3, I64 x4, I64 x5] ∧ x0.size ≤ maxLen ∧ x1.size ≤ maxLen ∧ x2.size ≤ maxLen ∧ (Sl w x3 y3 ∧ y3.length < 9223372036854775808) ∧ (-9223372036854775808 ≤ x4 ∧ x4 ≤ 9223372036854775807) ∧ (-9223372036854775808 ≤ x5 ∧ x5 ≤ 9223372036854775807) := by
  obtain ⟨fuel, h⟩ := h
  unfold Value.okWide at hval
  rw [Tryd.underlying41] at hval
  obtain ⟨cs, rfl, hsz, _⟩ := hval
  have hct : Tryd.prog.cellsOf 41 = 6 := by have hst := sz41; unfold szc at hst; unfold Program.cellsOf; rw [hst]; rfl
  rw [hct] at hsz
  obtain ⟨_, _, g0⟩ := trod_field (ft := 30) (off := 0) (m := 3) Tryd.underlying41 h 0 rfl sz30
  obtain ⟨_, _, g0_0⟩ := trod_field (ft := 9) (off := 0) (m := 1) Tryd.underlying30 g0 0 rfl sz9
  obtain ⟨x0, e0, _, hx0⟩ := DataW.trod_string Tryd.underlying9 g0_0
  obtain ⟨_, _, g0_1⟩ := trod_field (ft := 9) (off := 1) (m := 1) Tryd.underlying30 g0 1 rfl sz9
  obtain ⟨x1, e1, _, hx1⟩ := DataW.trod_string Tryd.underlying9 g0_1
  obtain ⟨_, _, g0_2⟩ := trod_field (ft := 9) (off := 2) (m := 1) Tryd.underlying30 g0 2 rfl sz9
  obtain ⟨x2, e2, _, hx2⟩ := DataW.trod_string Tryd.underlying9 g0_2
  obtain ⟨_, _, g1⟩ := trod_field (ft := 22) (off := 3) (m := 1) Tryd.underlying41 h 1 rfl sz22
  obtain ⟨x3, y3, e3, hs3, hl3⟩ := trod_sl Tryd.underlying22 Tryd.underlying5 sz5 g1
  obtain ⟨_, _, g2⟩ := trod_field (ft := 3) (off := 4) (m := 1) Tryd.underlying41 h 2 rfl sz3
  obtain ⟨x4, e4, _, hw4⟩ := DataW.trod_int Tryd.underlying3 g2
  have hb4 := bounds_i64 hw4
  obtain ⟨_, _, g3⟩ := trod_field (ft := 3) (off := 5) (m := 1) Tryd.underlying41 h 3 rfl sz3
  obtain ⟨x5, e5, _, hw5⟩ := DataW.trod_int Tryd.underlying3 g3
  have hb5 := bounds_i64 hw5
  refine ⟨x0, x1, x2, x3, y3, x4, x5, congrArg Value.agg (Array.ext' ?_), hx0, hx1, hx2, ⟨hs3, hl3⟩, hb4, hb5⟩
  have hlen : cs.toList.length = 6 := by rw [Array.length_toList]; exact hsz
  simp only [Value.cells] at e0 e1 e2 e3 e4 e5
  generalize cs.toList = L at *
  obtain ⟨c0, c1, c2, c3, c4, c5, rfl⟩ : ∃ c0 c1 c2 c3 c4 c5 : Value, L = [c0, c1, c2, c3, c4, c5] := by
    match L, hlen with
    | [c0, c1, c2, c3, c4, c5], _ => exact ⟨c0, c1, c2, c3, c4, c5, rfl⟩
  simp only [List.drop_succ_cons, List.drop_zero, List.take_succ_cons, List.take_zero, List.cons.injEq, and_true] at e0 e1 e2 e3 e4 e5
  subst e0 e1 e2 e3 e4 e5
  rfl

theorem open_turn {H : Type} {enc : TypeId × Value → H} {w : World} {base : Nat} {spare : Nat → Bool} {held : Bool} {r : Reach} {b0 : Nat} {v : Value} {d : DataW H} {ps : List MemPlace} (hval : Value.okWide Tryd.prog w r b0 48 v) (h : DataW.Trod enc Tryd.prog w base spare held 48 v d ps) :
    ∃ (x0 : ByteArray) (x1 : ByteArray) (x2 : ByteArray) (x3 : ByteArray) (x4 : Int) (x5 : Int) (x6 : ByteArray) (x7 : Int) (x8 : Bool) (x9 : Int) (x10 : Int) (x11 : UInt8), v = .agg #[.string x0, .string x1, .string x2, .string x3, I64 x4, I64 x5, .string x6, I64 x7, BV x8, I64 x9, I64 x10, V8 x11] ∧ x0.size ≤ maxLen ∧ x1.size ≤ maxLen ∧ x2.size ≤ maxLen ∧ x3.size ≤ maxLen ∧ (-9223372036854775808 ≤ x4 ∧ x4 ≤ 9223372036854775807) ∧ (-9223372036854775808 ≤ x5 ∧ x5 ≤ 9223372036854775807) ∧ x6.size ≤ maxLen ∧ (-9223372036854775808 ≤ x7 ∧ x7 ≤ 9223372036854775807) ∧ (-9223372036854775808 ≤ x9 ∧ x9 ≤ 9223372036854775807) ∧ (-9223372036854775808 ≤ x10 ∧ x10 ≤ 9223372036854775807) := by
  obtain ⟨fuel, h⟩ := h
  unfold Value.okWide at hval
  rw [Tryd.underlying48] at hval
  obtain ⟨cs, rfl, hsz, _⟩ := hval
  have hct : Tryd.prog.cellsOf 48 = 12 := by have hst := sz48; unfold szc at hst; unfold Program.cellsOf; rw [hst]; rfl
  rw [hct] at hsz
  obtain ⟨_, _, g0⟩ := trod_field (ft := 32) (off := 0) (m := 9) Tryd.underlying48 h 0 rfl sz32
  obtain ⟨_, _, g0_0⟩ := trod_field (ft := 30) (off := 0) (m := 3) Tryd.underlying32 g0 0 rfl sz30
  obtain ⟨_, _, g0_0_0⟩ := trod_field (ft := 9) (off := 0) (m := 1) Tryd.underlying30 g0_0 0 rfl sz9
  obtain ⟨x0, e0, _, hx0⟩ := DataW.trod_string Tryd.underlying9 g0_0_0
  obtain ⟨_, _, g0_0_1⟩ := trod_field (ft := 9) (off := 1) (m := 1) Tryd.underlying30 g0_0 1 rfl sz9
  obtain ⟨x1, e1, _, hx1⟩ := DataW.trod_string Tryd.underlying9 g0_0_1
  obtain ⟨_, _, g0_0_2⟩ := trod_field (ft := 9) (off := 2) (m := 1) Tryd.underlying30 g0_0 2 rfl sz9
  obtain ⟨x2, e2, _, hx2⟩ := DataW.trod_string Tryd.underlying9 g0_0_2
  obtain ⟨_, _, g0_1⟩ := trod_field (ft := 9) (off := 3) (m := 1) Tryd.underlying32 g0 1 rfl sz9
  obtain ⟨x3, e3, _, hx3⟩ := DataW.trod_string Tryd.underlying9 g0_1
  obtain ⟨_, _, g0_2⟩ := trod_field (ft := 3) (off := 4) (m := 1) Tryd.underlying32 g0 2 rfl sz3
  obtain ⟨x4, e4, _, hw4⟩ := DataW.trod_int Tryd.underlying3 g0_2
  have hb4 := bounds_i64 hw4
  obtain ⟨_, _, g0_3⟩ := trod_field (ft := 3) (off := 5) (m := 1) Tryd.underlying32 g0 3 rfl sz3
  obtain ⟨x5, e5, _, hw5⟩ := DataW.trod_int Tryd.underlying3 g0_3
  have hb5 := bounds_i64 hw5
  obtain ⟨_, _, g0_4⟩ := trod_field (ft := 9) (off := 6) (m := 1) Tryd.underlying32 g0 4 rfl sz9
  obtain ⟨x6, e6, _, hx6⟩ := DataW.trod_string Tryd.underlying9 g0_4
  obtain ⟨_, _, g0_5⟩ := trod_field (ft := 3) (off := 7) (m := 1) Tryd.underlying32 g0 5 rfl sz3
  obtain ⟨x7, e7, _, hw7⟩ := DataW.trod_int Tryd.underlying3 g0_5
  have hb7 := bounds_i64 hw7
  obtain ⟨_, _, g0_6⟩ := trod_field (ft := 4) (off := 8) (m := 1) Tryd.underlying32 g0 6 rfl sz4
  obtain ⟨x8, e8, _⟩ := DataW.trod_bool Tryd.underlying4 g0_6
  obtain ⟨_, _, g1⟩ := trod_field (ft := 3) (off := 9) (m := 1) Tryd.underlying48 h 1 rfl sz3
  obtain ⟨x9, e9, _, hw9⟩ := DataW.trod_int Tryd.underlying3 g1
  have hb9 := bounds_i64 hw9
  obtain ⟨_, _, g2⟩ := trod_field (ft := 3) (off := 10) (m := 1) Tryd.underlying48 h 2 rfl sz3
  obtain ⟨x10, e10, _, hw10⟩ := DataW.trod_int Tryd.underlying3 g2
  have hb10 := bounds_i64 hw10
  obtain ⟨_, _, g3⟩ := trod_field (ft := 5) (off := 11) (m := 1) Tryd.underlying48 h 3 rfl sz5
  obtain ⟨x11, e11⟩ := trod_u8 Tryd.underlying5 g3
  refine ⟨x0, x1, x2, x3, x4, x5, x6, x7, x8, x9, x10, x11, congrArg Value.agg (Array.ext' ?_), hx0, hx1, hx2, hx3, hb4, hb5, hx6, hb7, hb9, hb10⟩
  have hlen : cs.toList.length = 12 := by rw [Array.length_toList]; exact hsz
  simp only [Value.cells] at e0 e1 e2 e3 e4 e5 e6 e7 e8 e9 e10 e11
  generalize cs.toList = L at *
  obtain ⟨c0, c1, c2, c3, c4, c5, c6, c7, c8, c9, c10, c11, rfl⟩ : ∃ c0 c1 c2 c3 c4 c5 c6 c7 c8 c9 c10 c11 : Value, L = [c0, c1, c2, c3, c4, c5, c6, c7, c8, c9, c10, c11] := by
    match L, hlen with
    | [c0, c1, c2, c3, c4, c5, c6, c7, c8, c9, c10, c11], _ => exact ⟨c0, c1, c2, c3, c4, c5, c6, c7, c8, c9, c10, c11, rfl⟩
  simp only [List.drop_succ_cons, List.drop_zero, List.take_succ_cons, List.take_zero, List.cons.injEq, and_true] at e0 e1 e2 e3 e4 e5 e6 e7 e8 e9 e10 e11
  subst e0 e1 e2 e3 e4 e5 e6 e7 e8 e9 e10 e11
  rfl

end Go.Proofs.YtmoaddicejohgaaDoor
