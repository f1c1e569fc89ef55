/- Closed facts: what it yields to build a struct of parts; arrays of truths. No conditions. -/
import Derived.Test.YtjbohfonjalfnaaFacts
import Derived.Test.YtjbohfonjalfnaaMore
set_option linter.unusedSimpArgs false
set_option linter.unusedVariables false
set_option maxRecDepth 100000
set_option maxHeartbeats 4000000
namespace Go.Proofs.Ytjbohfonjalfnaa
open Go
open List (getD_cons_zero getD_cons_succ set_cons_zero set_cons_succ)
open Nat (zero_add add_zero mul_one zero_mul)

theorem zc85 : zeroC Try.prog 85 = some (arrB 128 fun _ => false) := by kernel_rfl

theorem zc87 : zeroC Try.prog 87 = some (arrB 256 fun _ => false) := by kernel_rfl

theorem zc7 : zeroC Try.prog 7 = some #[I64 0, I64 0, BV false, V8 0] := by kernel_rfl

theorem zc8 : zeroC Try.prog 8 = some #[I64 0, I64 0, BV false, V8 0] := by kernel_rfl

theorem zc13 : zeroC Try.prog 13 = some #[.string ⟨#[]⟩, V64 0] := by kernel_rfl

theorem zc14 : zeroC Try.prog 14 = some #[.string ⟨#[]⟩, V64 0] := by kernel_rfl

theorem zc18 : zeroC Try.prog 18 = some #[.pointer none] := by kernel_rfl

theorem zc19 : zeroC Try.prog 19 = some #[.pointer none] := by kernel_rfl

theorem zc76 : zeroC Try.prog 76 = some #[V64 0, V64 0] := by kernel_rfl

theorem zc77 : zeroC Try.prog 77 = some #[V64 0, V64 0] := by kernel_rfl

theorem zc79 : zeroC Try.prog 79 = some #[.pointer none, V64 0, V64 0] := by kernel_rfl

theorem zc80 : zeroC Try.prog 80 = some #[.pointer none, V64 0, V64 0] := by kernel_rfl

theorem zc94 : zeroC Try.prog 94 = some #[.pointer none, .pointer none, .pointer none, .string ⟨#[]⟩] := by kernel_rfl

theorem zc95 : zeroC Try.prog 95 = some #[.pointer none, .pointer none, .pointer none, .string ⟨#[]⟩] := by kernel_rfl

theorem bd77_ : ∀ w, (Instr.build 77 [].toArray).run Try.prog w = .ok (.agg #[V64 0, V64 0]) w := fun w => by kernel_rfl

theorem bd77_0_1 (x0_0 : UInt64) (x1_0 : UInt64) : ∀ w, (Instr.build 77 [(0, V64 x0_0), (1, V64 x1_0)].toArray).run Try.prog w = .ok (.agg #[V64 x0_0, V64 x1_0]) w := fun w => by kernel_rfl

theorem bd80_0_1 (x0_0 : Option Addr) (x1_0 : UInt64) (x1_1 : UInt64) : ∀ w, (Instr.build 80 [(0, .pointer x0_0), (1, .agg #[V64 x1_0, V64 x1_1])].toArray).run Try.prog w = .ok (.agg #[.pointer x0_0, V64 x1_0, V64 x1_1]) w := fun w => by kernel_rfl

end Go.Proofs.Ytjbohfonjalfnaa
