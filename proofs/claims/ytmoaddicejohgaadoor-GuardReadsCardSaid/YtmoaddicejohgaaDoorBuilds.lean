/- Closed facts: what it yields to build a struct of parts; arrays of truths. No conditions. -/
import Derived.Test.YtmoaddicejohgaaDoorFacts
import Derived.Test.YtmoaddicejohgaaDoorMore
set_option linter.unusedSimpArgs false
set_option linter.unusedVariables false
set_option maxRecDepth 100000
set_option maxHeartbeats 4000000
namespace Go.Proofs.YtmoaddicejohgaaDoor
open Go
open List (getD_cons_zero getD_cons_succ set_cons_zero set_cons_succ)

theorem cf30 : Callable Tryd.prog 30 := ⟨Tryd.f30, Tryd.func30, by kernel_rfl, by kernel_rfl⟩

theorem cf79 : Callable Tryd.prog 79 := ⟨Tryd.f79, Tryd.func79, by kernel_rfl, by kernel_rfl⟩

theorem zc130 : zeroC Tryd.prog 130 = some (arrB 128 fun _ => false) := by kernel_rfl

theorem zc132 : zeroC Tryd.prog 132 = some (arrB 256 fun _ => false) := by kernel_rfl

theorem zc7 : zeroC Tryd.prog 7 = some #[I64 0, I64 0, BV false, V8 0] := by kernel_rfl

theorem zc8 : zeroC Tryd.prog 8 = some #[I64 0, I64 0, BV false, V8 0] := by kernel_rfl

theorem zc13 : zeroC Tryd.prog 13 = some #[.string ⟨#[]⟩, V64 0] := by kernel_rfl

theorem zc14 : zeroC Tryd.prog 14 = some #[.string ⟨#[]⟩, V64 0] := by kernel_rfl

theorem zc18 : zeroC Tryd.prog 18 = some #[.pointer none] := by kernel_rfl

theorem zc19 : zeroC Tryd.prog 19 = some #[.pointer none] := by kernel_rfl

theorem zc29 : zeroC Tryd.prog 29 = some #[.string ⟨#[]⟩, .string ⟨#[]⟩, .string ⟨#[]⟩] := by kernel_rfl

theorem zc30 : zeroC Tryd.prog 30 = some #[.string ⟨#[]⟩, .string ⟨#[]⟩, .string ⟨#[]⟩] := by kernel_rfl

theorem zc31 : zeroC Tryd.prog 31 = some #[.string ⟨#[]⟩, .string ⟨#[]⟩, .string ⟨#[]⟩, .string ⟨#[]⟩, I64 0, I64 0, .string ⟨#[]⟩, I64 0, BV false] := by kernel_rfl

theorem zc32 : zeroC Tryd.prog 32 = some #[.string ⟨#[]⟩, .string ⟨#[]⟩, .string ⟨#[]⟩, .string ⟨#[]⟩, I64 0, I64 0, .string ⟨#[]⟩, I64 0, BV false] := by kernel_rfl

theorem zc37 : zeroC Tryd.prog 37 = some #[.string ⟨#[]⟩, .string ⟨#[]⟩, .string ⟨#[]⟩] := by kernel_rfl

theorem zc40 : zeroC Tryd.prog 40 = some #[.string ⟨#[]⟩, .string ⟨#[]⟩, .string ⟨#[]⟩, .slice none 0 0, I64 0, I64 0] := by kernel_rfl

theorem zc41 : zeroC Tryd.prog 41 = some #[.string ⟨#[]⟩, .string ⟨#[]⟩, .string ⟨#[]⟩, .slice none 0 0, I64 0, I64 0] := by kernel_rfl

theorem zc47 : zeroC Tryd.prog 47 = some #[.string ⟨#[]⟩, .string ⟨#[]⟩, .string ⟨#[]⟩, .string ⟨#[]⟩, I64 0, I64 0, .string ⟨#[]⟩, I64 0, BV false, I64 0, I64 0, V8 0] := by kernel_rfl

theorem zc48 : zeroC Tryd.prog 48 = some #[.string ⟨#[]⟩, .string ⟨#[]⟩, .string ⟨#[]⟩, .string ⟨#[]⟩, I64 0, I64 0, .string ⟨#[]⟩, I64 0, BV false, I64 0, I64 0, V8 0] := by kernel_rfl

theorem zc84 : zeroC Tryd.prog 84 = some #[V64 0, V64 0] := by kernel_rfl

theorem zc85 : zeroC Tryd.prog 85 = some #[V64 0, V64 0] := by kernel_rfl

theorem zc88 : zeroC Tryd.prog 88 = some #[.pointer none, V64 0, V64 0] := by kernel_rfl

theorem zc89 : zeroC Tryd.prog 89 = some #[.pointer none, V64 0, V64 0] := by kernel_rfl

theorem zc136 : zeroC Tryd.prog 136 = some #[.pointer none, .pointer none, .pointer none, .string ⟨#[]⟩] := by kernel_rfl

theorem zc137 : zeroC Tryd.prog 137 = some #[.pointer none, .pointer none, .pointer none, .string ⟨#[]⟩] := by kernel_rfl

theorem bd30_0_1_2 (x0_0 : ByteArray) (x1_0 : ByteArray) (x2_0 : ByteArray) : ∀ w, (Instr.build 30 [(0, .string x0_0), (1, .string x1_0), (2, .string x2_0)].toArray).run Tryd.prog w = .ok (.agg #[.string x0_0, .string x1_0, .string x2_0]) w := fun w => by kernel_rfl

theorem bd37_ : ∀ w, (Instr.build 37 [].toArray).run Tryd.prog w = .ok (.agg #[.string ⟨#[]⟩, .string ⟨#[]⟩, .string ⟨#[]⟩]) w := fun w => by kernel_rfl

theorem bd37_0_1_2 (x0_0 : ByteArray) (x1_0 : ByteArray) (x2_0 : ByteArray) : ∀ w, (Instr.build 37 [(0, .string x0_0), (1, .string x1_0), (2, .string x2_0)].toArray).run Tryd.prog w = .ok (.agg #[.string x0_0, .string x1_0, .string x2_0]) w := fun w => by kernel_rfl

theorem bd85_ : ∀ w, (Instr.build 85 [].toArray).run Tryd.prog w = .ok (.agg #[V64 0, V64 0]) w := fun w => by kernel_rfl

theorem bd85_0_1 (x0_0 : UInt64) (x1_0 : UInt64) : ∀ w, (Instr.build 85 [(0, V64 x0_0), (1, V64 x1_0)].toArray).run Tryd.prog w = .ok (.agg #[V64 x0_0, V64 x1_0]) w := fun w => by kernel_rfl

theorem bd89_0_1 (x0_0 : Option Addr) (x1_0 : UInt64) (x1_1 : UInt64) : ∀ w, (Instr.build 89 [(0, .pointer x0_0), (1, .agg #[V64 x1_0, V64 x1_1])].toArray).run Tryd.prog w = .ok (.agg #[.pointer x0_0, V64 x1_0, V64 x1_1]) w := fun w => by kernel_rfl

end Go.Proofs.YtmoaddicejohgaaDoor
