/- Closed facts on the program's types and functions: sizes, cells of zero, what may be called. No conditions. -/
import Derived.Test.YtjbohfonjalfnaaArr
import Derived.Test.YtjbohfonjalfnaaProg
set_option linter.unusedSimpArgs false
set_option linter.unusedVariables false
set_option maxRecDepth 100000
set_option maxHeartbeats 4000000
namespace Go.Proofs.Ytjbohfonjalfnaa
open Go
open List (getD_cons_zero getD_cons_succ set_cons_zero set_cons_succ)
open Nat (zero_add add_zero mul_one zero_mul)

theorem sz1 : szc Try.prog 1 = some 1 := by kernel_rfl

theorem sz2 : szc Try.prog 2 = some 1 := by kernel_rfl

theorem sz3 : szc Try.prog 3 = some 1 := by kernel_rfl

theorem sz4 : szc Try.prog 4 = some 1 := by kernel_rfl

theorem sz5 : szc Try.prog 5 = some 1 := by kernel_rfl

theorem sz6 : szc Try.prog 6 = some 1 := by kernel_rfl

theorem sz7 : szc Try.prog 7 = some 4 := by kernel_rfl

theorem sz8 : szc Try.prog 8 = some 4 := by kernel_rfl

theorem sz9 : szc Try.prog 9 = some 1 := by kernel_rfl

theorem sz10 : szc Try.prog 10 = some 1 := by kernel_rfl

theorem sz11 : szc Try.prog 11 = some 1 := by kernel_rfl

theorem sz12 : szc Try.prog 12 = some 1 := by kernel_rfl

theorem sz13 : szc Try.prog 13 = some 2 := by kernel_rfl

theorem sz14 : szc Try.prog 14 = some 2 := by kernel_rfl

theorem sz15 : szc Try.prog 15 = some 1 := by kernel_rfl

theorem sz16 : szc Try.prog 16 = some 1 := by kernel_rfl

theorem sz17 : szc Try.prog 17 = some 1 := by kernel_rfl

theorem sz18 : szc Try.prog 18 = some 1 := by kernel_rfl

theorem sz19 : szc Try.prog 19 = some 1 := by kernel_rfl

theorem sz21 : szc Try.prog 21 = some 1 := by kernel_rfl

theorem sz22 : szc Try.prog 22 = some 16 := by kernel_rfl

theorem sz23 : szc Try.prog 23 = some 1 := by kernel_rfl

theorem sz24 : szc Try.prog 24 = some 1 := by kernel_rfl

theorem sz26 : szc Try.prog 26 = some 1 := by kernel_rfl

theorem sz27 : szc Try.prog 27 = some 1 := by kernel_rfl

theorem sz28 : szc Try.prog 28 = some 1 := by kernel_rfl

theorem sz30 : szc Try.prog 30 = some 1 := by kernel_rfl

theorem sz31 : szc Try.prog 31 = some 1 := by kernel_rfl

theorem sz32 : szc Try.prog 32 = some 1 := by kernel_rfl

theorem sz33 : szc Try.prog 33 = some 1 := by kernel_rfl

theorem sz34 : szc Try.prog 34 = some 1 := by kernel_rfl

theorem sz35 : szc Try.prog 35 = some 1 := by kernel_rfl

theorem sz36 : szc Try.prog 36 = some 1 := by kernel_rfl

theorem sz37 : szc Try.prog 37 = some 1 := by kernel_rfl

theorem sz38 : szc Try.prog 38 = some 1 := by kernel_rfl

theorem sz39 : szc Try.prog 39 = some 34 := by kernel_rfl

theorem sz40 : szc Try.prog 40 = some 34 := by kernel_rfl

theorem sz41 : szc Try.prog 41 = some 1 := by kernel_rfl

theorem sz42 : szc Try.prog 42 = some 1 := by kernel_rfl

theorem sz43 : szc Try.prog 43 = some 1 := by kernel_rfl

theorem sz44 : szc Try.prog 44 = some 1 := by kernel_rfl

theorem sz45 : szc Try.prog 45 = some 1 := by kernel_rfl

theorem sz46 : szc Try.prog 46 = some 1 := by kernel_rfl

theorem sz47 : szc Try.prog 47 = some 19 := by kernel_rfl

theorem sz48 : szc Try.prog 48 = some 19 := by kernel_rfl

theorem sz49 : szc Try.prog 49 = some 1 := by kernel_rfl

theorem sz51 : szc Try.prog 51 = some 1 := by kernel_rfl

theorem sz52 : szc Try.prog 52 = some 1 := by kernel_rfl

theorem sz53 : szc Try.prog 53 = some 1 := by kernel_rfl

theorem sz54 : szc Try.prog 54 = some 1 := by kernel_rfl

theorem sz55 : szc Try.prog 55 = some 1 := by kernel_rfl

theorem sz56 : szc Try.prog 56 = some 1 := by kernel_rfl

theorem sz57 : szc Try.prog 57 = some 1 := by kernel_rfl

theorem sz59 : szc Try.prog 59 = some 1 := by kernel_rfl

theorem sz60 : szc Try.prog 60 = some 1 := by kernel_rfl

theorem sz61 : szc Try.prog 61 = some 1 := by kernel_rfl

theorem sz62 : szc Try.prog 62 = some 1 := by kernel_rfl

theorem sz63 : szc Try.prog 63 = some 176 := by kernel_rfl

theorem sz64 : szc Try.prog 64 = some 176 := by kernel_rfl

theorem sz65 : szc Try.prog 65 = some 176 := by kernel_rfl

theorem sz66 : szc Try.prog 66 = some 1 := by kernel_rfl

theorem sz67 : szc Try.prog 67 = some 256 := by kernel_rfl

theorem sz68 : szc Try.prog 68 = some 1 := by kernel_rfl

theorem sz69 : szc Try.prog 69 = some 1 := by kernel_rfl

theorem sz70 : szc Try.prog 70 = some 1 := by kernel_rfl

theorem sz71 : szc Try.prog 71 = some 176 := by kernel_rfl

theorem sz72 : szc Try.prog 72 = some 432 := by kernel_rfl

theorem sz73 : szc Try.prog 73 = some 432 := by kernel_rfl

theorem sz74 : szc Try.prog 74 = some 4 := by kernel_rfl

theorem sz75 : szc Try.prog 75 = some 1 := by kernel_rfl

theorem sz76 : szc Try.prog 76 = some 2 := by kernel_rfl

theorem sz77 : szc Try.prog 77 = some 2 := by kernel_rfl

theorem sz78 : szc Try.prog 78 = some 1 := by kernel_rfl

theorem sz79 : szc Try.prog 79 = some 3 := by kernel_rfl

theorem sz80 : szc Try.prog 80 = some 3 := by kernel_rfl

theorem sz81 : szc Try.prog 81 = some 1 := by kernel_rfl

theorem sz82 : szc Try.prog 82 = some 1 := by kernel_rfl

theorem sz83 : szc Try.prog 83 = some 1 := by kernel_rfl

theorem sz84 : szc Try.prog 84 = some 1 := by kernel_rfl

theorem sz85 : szc Try.prog 85 = some 128 := by kernel_rfl

theorem sz86 : szc Try.prog 86 = some 1 := by kernel_rfl

theorem sz87 : szc Try.prog 87 = some 256 := by kernel_rfl

theorem sz88 : szc Try.prog 88 = some 1 := by kernel_rfl

theorem sz89 : szc Try.prog 89 = some 1 := by kernel_rfl

theorem sz90 : szc Try.prog 90 = some 1 := by kernel_rfl

theorem sz91 : szc Try.prog 91 = some 1 := by kernel_rfl

theorem sz92 : szc Try.prog 92 = some 1 := by kernel_rfl

theorem sz93 : szc Try.prog 93 = some 1 := by kernel_rfl

theorem sz94 : szc Try.prog 94 = some 4 := by kernel_rfl

theorem sz95 : szc Try.prog 95 = some 4 := by kernel_rfl

theorem sz96 : szc Try.prog 96 = some 0 := by kernel_rfl

theorem sz97 : szc Try.prog 97 = some 0 := by kernel_rfl

theorem sz98 : szc Try.prog 98 = some 0 := by kernel_rfl

theorem sz99 : szc Try.prog 99 = some 1 := by kernel_rfl

theorem sz100 : szc Try.prog 100 = some 1 := by kernel_rfl

theorem sz101 : szc Try.prog 101 = some 1 := by kernel_rfl

theorem sz102 : szc Try.prog 102 = some 1 := by kernel_rfl

theorem sz103 : szc Try.prog 103 = some 1 := by kernel_rfl

theorem sz104 : szc Try.prog 104 = some 1 := by kernel_rfl

theorem sz105 : szc Try.prog 105 = some 1 := by kernel_rfl

theorem sz106 : szc Try.prog 106 = some 11 := by kernel_rfl

theorem sz107 : szc Try.prog 107 = some 11 := by kernel_rfl

theorem sz108 : szc Try.prog 108 = some 1 := by kernel_rfl

theorem zc22 : zeroC Try.prog 22 = some (arr8 16 fun _ => 0) := by kernel_rfl

theorem zc67 : zeroC Try.prog 67 = some (arr8 256 fun _ => 0) := by kernel_rfl

theorem zc71 : zeroC Try.prog 71 = some (arr8 176 fun _ => 0) := by kernel_rfl

theorem zc74 : zeroC Try.prog 74 = some (arr8 4 fun _ => 0) := by kernel_rfl

theorem ze5 : zeroC Try.prog 5 = some #[V8 0] := by kernel_rfl

theorem bz5 : bytesOf Try.prog 5 = some 1 := by kernel_rfl

theorem ze6 : zeroC Try.prog 6 = some #[V8 0] := by kernel_rfl

theorem bz6 : bytesOf Try.prog 6 = some 1 := by kernel_rfl

theorem ze12 : zeroC Try.prog 12 = some #[V64 0] := by kernel_rfl

theorem bz12 : bytesOf Try.prog 12 = some 8 := by kernel_rfl

theorem ze43 : zeroC Try.prog 43 = some #[V64 0] := by kernel_rfl

theorem bz43 : bytesOf Try.prog 43 = some 8 := by kernel_rfl

theorem ze45 : zeroC Try.prog 45 = some #[V32 0] := by kernel_rfl

theorem bz45 : bytesOf Try.prog 45 = some 4 := by kernel_rfl

theorem ze46 : zeroC Try.prog 46 = some #[V64 0] := by kernel_rfl

theorem bz46 : bytesOf Try.prog 46 = some 8 := by kernel_rfl

theorem ze100 : zeroC Try.prog 100 = some #[V8 0] := by kernel_rfl

theorem bz100 : bytesOf Try.prog 100 = some 1 := by kernel_rfl

theorem ze101 : zeroC Try.prog 101 = some #[V8 0] := by kernel_rfl

theorem bz101 : bytesOf Try.prog 101 = some 1 := by kernel_rfl

theorem ba22 (x0 x1 x2 x3 x4 x5 x6 x7 x8 x9 x10 x11 x12 x13 x14 x15 : UInt8) : ∀ w, (Instr.build 22 [(0, V8 x0), (1, V8 x1), (2, V8 x2), (3, V8 x3), (4, V8 x4), (5, V8 x5), (6, V8 x6), (7, V8 x7), (8, V8 x8), (9, V8 x9), (10, V8 x10), (11, V8 x11), (12, V8 x12), (13, V8 x13), (14, V8 x14), (15, V8 x15)].toArray).run Try.prog w = .ok (.agg (arr8 16 fun i => [x0, x1, x2, x3, x4, x5, x6, x7, x8, x9, x10, x11, x12, x13, x14, x15].getD i 0)) w := fun w => by kernel_rfl

theorem ba74 (x0 x1 x2 x3 : UInt8) : ∀ w, (Instr.build 74 [(0, V8 x0), (1, V8 x1), (2, V8 x2), (3, V8 x3)].toArray).run Try.prog w = .ok (.agg (arr8 4 fun i => [x0, x1, x2, x3].getD i 0)) w := fun w => by kernel_rfl

theorem bs0 : ∀ w, (Instr.buildSlice 27 0 [].toArray).run Try.prog w = .ok (.slice (some ⟨w.heap.size, 0, none⟩) 0 0) (w.alloc (.cells (bytes []) 5)) := fun w => by kernel_rfl

theorem bs1 (x0 : UInt8) : ∀ w, (Instr.buildSlice 27 1 [(0, V8 x0)].toArray).run Try.prog w = .ok (.slice (some ⟨w.heap.size, 0, none⟩) 1 1) (w.alloc (.cells (bytes [x0]) 5)) := fun w => by kernel_rfl

theorem bs2 (x0 x1 : UInt8) : ∀ w, (Instr.buildSlice 27 2 [(0, V8 x0), (1, V8 x1)].toArray).run Try.prog w = .ok (.slice (some ⟨w.heap.size, 0, none⟩) 2 2) (w.alloc (.cells (bytes [x0, x1]) 5)) := fun w => by kernel_rfl

theorem bs3 (x0 x1 x2 : UInt8) : ∀ w, (Instr.buildSlice 27 3 [(0, V8 x0), (1, V8 x1), (2, V8 x2)].toArray).run Try.prog w = .ok (.slice (some ⟨w.heap.size, 0, none⟩) 3 3) (w.alloc (.cells (bytes [x0, x1, x2]) 5)) := fun w => by kernel_rfl

theorem bs4 (x0 x1 x2 x3 : UInt8) : ∀ w, (Instr.buildSlice 27 4 [(0, V8 x0), (1, V8 x1), (2, V8 x2), (3, V8 x3)].toArray).run Try.prog w = .ok (.slice (some ⟨w.heap.size, 0, none⟩) 4 4) (w.alloc (.cells (bytes [x0, x1, x2, x3]) 5)) := fun w => by kernel_rfl

theorem bs5 (x0 x1 x2 x3 x4 : UInt8) : ∀ w, (Instr.buildSlice 27 5 [(0, V8 x0), (1, V8 x1), (2, V8 x2), (3, V8 x3), (4, V8 x4)].toArray).run Try.prog w = .ok (.slice (some ⟨w.heap.size, 0, none⟩) 5 5) (w.alloc (.cells (bytes [x0, x1, x2, x3, x4]) 5)) := fun w => by kernel_rfl

theorem bs6 (x0 x1 x2 x3 x4 x5 : UInt8) : ∀ w, (Instr.buildSlice 27 6 [(0, V8 x0), (1, V8 x1), (2, V8 x2), (3, V8 x3), (4, V8 x4), (5, V8 x5)].toArray).run Try.prog w = .ok (.slice (some ⟨w.heap.size, 0, none⟩) 6 6) (w.alloc (.cells (bytes [x0, x1, x2, x3, x4, x5]) 5)) := fun w => by kernel_rfl

theorem bs7 (x0 x1 x2 x3 x4 x5 x6 : UInt8) : ∀ w, (Instr.buildSlice 27 7 [(0, V8 x0), (1, V8 x1), (2, V8 x2), (3, V8 x3), (4, V8 x4), (5, V8 x5), (6, V8 x6)].toArray).run Try.prog w = .ok (.slice (some ⟨w.heap.size, 0, none⟩) 7 7) (w.alloc (.cells (bytes [x0, x1, x2, x3, x4, x5, x6]) 5)) := fun w => by kernel_rfl

theorem bs8 (x0 x1 x2 x3 x4 x5 x6 x7 : UInt8) : ∀ w, (Instr.buildSlice 27 8 [(0, V8 x0), (1, V8 x1), (2, V8 x2), (3, V8 x3), (4, V8 x4), (5, V8 x5), (6, V8 x6), (7, V8 x7)].toArray).run Try.prog w = .ok (.slice (some ⟨w.heap.size, 0, none⟩) 8 8) (w.alloc (.cells (bytes [x0, x1, x2, x3, x4, x5, x6, x7]) 5)) := fun w => by kernel_rfl

theorem bs9 (x0 x1 x2 x3 x4 x5 x6 x7 x8 : UInt8) : ∀ w, (Instr.buildSlice 27 9 [(0, V8 x0), (1, V8 x1), (2, V8 x2), (3, V8 x3), (4, V8 x4), (5, V8 x5), (6, V8 x6), (7, V8 x7), (8, V8 x8)].toArray).run Try.prog w = .ok (.slice (some ⟨w.heap.size, 0, none⟩) 9 9) (w.alloc (.cells (bytes [x0, x1, x2, x3, x4, x5, x6, x7, x8]) 5)) := fun w => by kernel_rfl

theorem bs10 (x0 x1 x2 x3 x4 x5 x6 x7 x8 x9 : UInt8) : ∀ w, (Instr.buildSlice 27 10 [(0, V8 x0), (1, V8 x1), (2, V8 x2), (3, V8 x3), (4, V8 x4), (5, V8 x5), (6, V8 x6), (7, V8 x7), (8, V8 x8), (9, V8 x9)].toArray).run Try.prog w = .ok (.slice (some ⟨w.heap.size, 0, none⟩) 10 10) (w.alloc (.cells (bytes [x0, x1, x2, x3, x4, x5, x6, x7, x8, x9]) 5)) := fun w => by kernel_rfl

theorem bs11 (x0 x1 x2 x3 x4 x5 x6 x7 x8 x9 x10 : UInt8) : ∀ w, (Instr.buildSlice 27 11 [(0, V8 x0), (1, V8 x1), (2, V8 x2), (3, V8 x3), (4, V8 x4), (5, V8 x5), (6, V8 x6), (7, V8 x7), (8, V8 x8), (9, V8 x9), (10, V8 x10)].toArray).run Try.prog w = .ok (.slice (some ⟨w.heap.size, 0, none⟩) 11 11) (w.alloc (.cells (bytes [x0, x1, x2, x3, x4, x5, x6, x7, x8, x9, x10]) 5)) := fun w => by kernel_rfl

theorem bs12 (x0 x1 x2 x3 x4 x5 x6 x7 x8 x9 x10 x11 : UInt8) : ∀ w, (Instr.buildSlice 27 12 [(0, V8 x0), (1, V8 x1), (2, V8 x2), (3, V8 x3), (4, V8 x4), (5, V8 x5), (6, V8 x6), (7, V8 x7), (8, V8 x8), (9, V8 x9), (10, V8 x10), (11, V8 x11)].toArray).run Try.prog w = .ok (.slice (some ⟨w.heap.size, 0, none⟩) 12 12) (w.alloc (.cells (bytes [x0, x1, x2, x3, x4, x5, x6, x7, x8, x9, x10, x11]) 5)) := fun w => by kernel_rfl

theorem bs13 (x0 x1 x2 x3 x4 x5 x6 x7 x8 x9 x10 x11 x12 : UInt8) : ∀ w, (Instr.buildSlice 27 13 [(0, V8 x0), (1, V8 x1), (2, V8 x2), (3, V8 x3), (4, V8 x4), (5, V8 x5), (6, V8 x6), (7, V8 x7), (8, V8 x8), (9, V8 x9), (10, V8 x10), (11, V8 x11), (12, V8 x12)].toArray).run Try.prog w = .ok (.slice (some ⟨w.heap.size, 0, none⟩) 13 13) (w.alloc (.cells (bytes [x0, x1, x2, x3, x4, x5, x6, x7, x8, x9, x10, x11, x12]) 5)) := fun w => by kernel_rfl

theorem bs14 (x0 x1 x2 x3 x4 x5 x6 x7 x8 x9 x10 x11 x12 x13 : UInt8) : ∀ w, (Instr.buildSlice 27 14 [(0, V8 x0), (1, V8 x1), (2, V8 x2), (3, V8 x3), (4, V8 x4), (5, V8 x5), (6, V8 x6), (7, V8 x7), (8, V8 x8), (9, V8 x9), (10, V8 x10), (11, V8 x11), (12, V8 x12), (13, V8 x13)].toArray).run Try.prog w = .ok (.slice (some ⟨w.heap.size, 0, none⟩) 14 14) (w.alloc (.cells (bytes [x0, x1, x2, x3, x4, x5, x6, x7, x8, x9, x10, x11, x12, x13]) 5)) := fun w => by kernel_rfl

theorem bs15 (x0 x1 x2 x3 x4 x5 x6 x7 x8 x9 x10 x11 x12 x13 x14 : UInt8) : ∀ w, (Instr.buildSlice 27 15 [(0, V8 x0), (1, V8 x1), (2, V8 x2), (3, V8 x3), (4, V8 x4), (5, V8 x5), (6, V8 x6), (7, V8 x7), (8, V8 x8), (9, V8 x9), (10, V8 x10), (11, V8 x11), (12, V8 x12), (13, V8 x13), (14, V8 x14)].toArray).run Try.prog w = .ok (.slice (some ⟨w.heap.size, 0, none⟩) 15 15) (w.alloc (.cells (bytes [x0, x1, x2, x3, x4, x5, x6, x7, x8, x9, x10, x11, x12, x13, x14]) 5)) := fun w => by kernel_rfl

theorem bs16 (x0 x1 x2 x3 x4 x5 x6 x7 x8 x9 x10 x11 x12 x13 x14 x15 : UInt8) : ∀ w, (Instr.buildSlice 27 16 [(0, V8 x0), (1, V8 x1), (2, V8 x2), (3, V8 x3), (4, V8 x4), (5, V8 x5), (6, V8 x6), (7, V8 x7), (8, V8 x8), (9, V8 x9), (10, V8 x10), (11, V8 x11), (12, V8 x12), (13, V8 x13), (14, V8 x14), (15, V8 x15)].toArray).run Try.prog w = .ok (.slice (some ⟨w.heap.size, 0, none⟩) 16 16) (w.alloc (.cells (bytes [x0, x1, x2, x3, x4, x5, x6, x7, x8, x9, x10, x11, x12, x13, x14, x15]) 5)) := fun w => by kernel_rfl

theorem cf3 : Callable Try.prog 3 := ⟨Try.f3, Try.func3, by kernel_rfl, by kernel_rfl⟩

theorem cf4 : Callable Try.prog 4 := ⟨Try.f4, Try.func4, by kernel_rfl, by kernel_rfl⟩

theorem cf5 : Callable Try.prog 5 := ⟨Try.f5, Try.func5, by kernel_rfl, by kernel_rfl⟩

theorem cf6 : Callable Try.prog 6 := ⟨Try.f6, Try.func6, by kernel_rfl, by kernel_rfl⟩

theorem cf7 : Callable Try.prog 7 := ⟨Try.f7, Try.func7, by kernel_rfl, by kernel_rfl⟩

theorem cf8 : Callable Try.prog 8 := ⟨Try.f8, Try.func8, by kernel_rfl, by kernel_rfl⟩

theorem cf9 : Callable Try.prog 9 := ⟨Try.f9, Try.func9, by kernel_rfl, by kernel_rfl⟩

theorem cf10 : Callable Try.prog 10 := ⟨Try.f10, Try.func10, by kernel_rfl, by kernel_rfl⟩

theorem cf11 : Callable Try.prog 11 := ⟨Try.f11, Try.func11, by kernel_rfl, by kernel_rfl⟩

theorem cf12 : Callable Try.prog 12 := ⟨Try.f12, Try.func12, by kernel_rfl, by kernel_rfl⟩

theorem cf13 : Callable Try.prog 13 := ⟨Try.f13, Try.func13, by kernel_rfl, by kernel_rfl⟩

theorem cf14 : Callable Try.prog 14 := ⟨Try.f14, Try.func14, by kernel_rfl, by kernel_rfl⟩

theorem cf15 : Callable Try.prog 15 := ⟨Try.f15, Try.func15, by kernel_rfl, by kernel_rfl⟩

theorem cf16 : Callable Try.prog 16 := ⟨Try.f16, Try.func16, by kernel_rfl, by kernel_rfl⟩

theorem cf17 : Callable Try.prog 17 := ⟨Try.f17, Try.func17, by kernel_rfl, by kernel_rfl⟩

theorem cf18 : Callable Try.prog 18 := ⟨Try.f18, Try.func18, by kernel_rfl, by kernel_rfl⟩

theorem cf19 : Callable Try.prog 19 := ⟨Try.f19, Try.func19, by kernel_rfl, by kernel_rfl⟩

theorem cf20 : Callable Try.prog 20 := ⟨Try.f20, Try.func20, by kernel_rfl, by kernel_rfl⟩

theorem cf21 : Callable Try.prog 21 := ⟨Try.f21, Try.func21, by kernel_rfl, by kernel_rfl⟩

theorem cf22 : Callable Try.prog 22 := ⟨Try.f22, Try.func22, by kernel_rfl, by kernel_rfl⟩

theorem cf23 : Callable Try.prog 23 := ⟨Try.f23, Try.func23, by kernel_rfl, by kernel_rfl⟩

theorem cf24 : Callable Try.prog 24 := ⟨Try.f24, Try.func24, by kernel_rfl, by kernel_rfl⟩

theorem cf25 : Callable Try.prog 25 := ⟨Try.f25, Try.func25, by kernel_rfl, by kernel_rfl⟩

theorem cf26 : Callable Try.prog 26 := ⟨Try.f26, Try.func26, by kernel_rfl, by kernel_rfl⟩

theorem cf27 : Callable Try.prog 27 := ⟨Try.f27, Try.func27, by kernel_rfl, by kernel_rfl⟩

theorem cf28 : Callable Try.prog 28 := ⟨Try.f28, Try.func28, by kernel_rfl, by kernel_rfl⟩

theorem cf29 : Callable Try.prog 29 := ⟨Try.f29, Try.func29, by kernel_rfl, by kernel_rfl⟩

theorem cf30 : Callable Try.prog 30 := ⟨Try.f30, Try.func30, by kernel_rfl, by kernel_rfl⟩

theorem cf31 : Callable Try.prog 31 := ⟨Try.f31, Try.func31, by kernel_rfl, by kernel_rfl⟩

theorem cf32 : Callable Try.prog 32 := ⟨Try.f32, Try.func32, by kernel_rfl, by kernel_rfl⟩

theorem cf33 : Callable Try.prog 33 := ⟨Try.f33, Try.func33, by kernel_rfl, by kernel_rfl⟩

theorem cf34 : Callable Try.prog 34 := ⟨Try.f34, Try.func34, by kernel_rfl, by kernel_rfl⟩

theorem cf35 : Callable Try.prog 35 := ⟨Try.f35, Try.func35, by kernel_rfl, by kernel_rfl⟩

theorem cf36 : Callable Try.prog 36 := ⟨Try.f36, Try.func36, by kernel_rfl, by kernel_rfl⟩

theorem cf37 : Callable Try.prog 37 := ⟨Try.f37, Try.func37, by kernel_rfl, by kernel_rfl⟩

theorem cf38 : Callable Try.prog 38 := ⟨Try.f38, Try.func38, by kernel_rfl, by kernel_rfl⟩

theorem cf39 : Callable Try.prog 39 := ⟨Try.f39, Try.func39, by kernel_rfl, by kernel_rfl⟩

theorem cf40 : Callable Try.prog 40 := ⟨Try.f40, Try.func40, by kernel_rfl, by kernel_rfl⟩

theorem cf41 : Callable Try.prog 41 := ⟨Try.f41, Try.func41, by kernel_rfl, by kernel_rfl⟩

theorem cf42 : Callable Try.prog 42 := ⟨Try.f42, Try.func42, by kernel_rfl, by kernel_rfl⟩

theorem cf43 : Callable Try.prog 43 := ⟨Try.f43, Try.func43, by kernel_rfl, by kernel_rfl⟩

theorem cf44 : Callable Try.prog 44 := ⟨Try.f44, Try.func44, by kernel_rfl, by kernel_rfl⟩

theorem cf45 : Callable Try.prog 45 := ⟨Try.f45, Try.func45, by kernel_rfl, by kernel_rfl⟩

theorem cf46 : Callable Try.prog 46 := ⟨Try.f46, Try.func46, by kernel_rfl, by kernel_rfl⟩

theorem cf47 : Callable Try.prog 47 := ⟨Try.f47, Try.func47, by kernel_rfl, by kernel_rfl⟩

theorem cf48 : Callable Try.prog 48 := ⟨Try.f48, Try.func48, by kernel_rfl, by kernel_rfl⟩

theorem cf49 : Callable Try.prog 49 := ⟨Try.f49, Try.func49, by kernel_rfl, by kernel_rfl⟩

theorem cf50 : Callable Try.prog 50 := ⟨Try.f50, Try.func50, by kernel_rfl, by kernel_rfl⟩

theorem cf51 : Callable Try.prog 51 := ⟨Try.f51, Try.func51, by kernel_rfl, by kernel_rfl⟩

theorem cf52 : Callable Try.prog 52 := ⟨Try.f52, Try.func52, by kernel_rfl, by kernel_rfl⟩

theorem cf53 : Callable Try.prog 53 := ⟨Try.f53, Try.func53, by kernel_rfl, by kernel_rfl⟩

theorem cf54 : Callable Try.prog 54 := ⟨Try.f54, Try.func54, by kernel_rfl, by kernel_rfl⟩

theorem cf55 : Callable Try.prog 55 := ⟨Try.f55, Try.func55, by kernel_rfl, by kernel_rfl⟩

theorem cf56 : Callable Try.prog 56 := ⟨Try.f56, Try.func56, by kernel_rfl, by kernel_rfl⟩

theorem cf57 : Callable Try.prog 57 := ⟨Try.f57, Try.func57, by kernel_rfl, by kernel_rfl⟩

end Go.Proofs.Ytjbohfonjalfnaa
