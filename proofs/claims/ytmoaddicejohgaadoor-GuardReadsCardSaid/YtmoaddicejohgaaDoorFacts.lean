/- Closed facts on the program's types and functions: sizes, cells of zero, what may be called. No conditions. -/
import Derived.Test.YtmoaddicejohgaaDoorArr
import Derived.Test.YtmoaddicejohgaaDoorProg
set_option linter.unusedSimpArgs false
set_option linter.unusedVariables false
set_option maxRecDepth 100000
set_option maxHeartbeats 4000000
namespace Go.Proofs.YtmoaddicejohgaaDoor
open Go
open List (getD_cons_zero getD_cons_succ set_cons_zero set_cons_succ)

theorem sz1 : szc Tryd.prog 1 = some 1 := by kernel_rfl

theorem sz2 : szc Tryd.prog 2 = some 1 := by kernel_rfl

theorem sz3 : szc Tryd.prog 3 = some 1 := by kernel_rfl

theorem sz4 : szc Tryd.prog 4 = some 1 := by kernel_rfl

theorem sz5 : szc Tryd.prog 5 = some 1 := by kernel_rfl

theorem sz6 : szc Tryd.prog 6 = some 1 := by kernel_rfl

theorem sz7 : szc Tryd.prog 7 = some 4 := by kernel_rfl

theorem sz8 : szc Tryd.prog 8 = some 4 := by kernel_rfl

theorem sz9 : szc Tryd.prog 9 = some 1 := by kernel_rfl

theorem sz10 : szc Tryd.prog 10 = some 1 := by kernel_rfl

theorem sz11 : szc Tryd.prog 11 = some 1 := by kernel_rfl

theorem sz12 : szc Tryd.prog 12 = some 1 := by kernel_rfl

theorem sz13 : szc Tryd.prog 13 = some 2 := by kernel_rfl

theorem sz14 : szc Tryd.prog 14 = some 2 := by kernel_rfl

theorem sz15 : szc Tryd.prog 15 = some 1 := by kernel_rfl

theorem sz16 : szc Tryd.prog 16 = some 1 := by kernel_rfl

theorem sz17 : szc Tryd.prog 17 = some 1 := by kernel_rfl

theorem sz18 : szc Tryd.prog 18 = some 1 := by kernel_rfl

theorem sz19 : szc Tryd.prog 19 = some 1 := by kernel_rfl

theorem sz21 : szc Tryd.prog 21 = some 1 := by kernel_rfl

theorem sz22 : szc Tryd.prog 22 = some 1 := by kernel_rfl

theorem sz23 : szc Tryd.prog 23 = some 1 := by kernel_rfl

theorem sz24 : szc Tryd.prog 24 = some 1 := by kernel_rfl

theorem sz26 : szc Tryd.prog 26 = some 1 := by kernel_rfl

theorem sz27 : szc Tryd.prog 27 = some 1 := by kernel_rfl

theorem sz28 : szc Tryd.prog 28 = some 1 := by kernel_rfl

theorem sz29 : szc Tryd.prog 29 = some 3 := by kernel_rfl

theorem sz30 : szc Tryd.prog 30 = some 3 := by kernel_rfl

theorem sz31 : szc Tryd.prog 31 = some 9 := by kernel_rfl

theorem sz32 : szc Tryd.prog 32 = some 9 := by kernel_rfl

theorem sz33 : szc Tryd.prog 33 = some 1 := by kernel_rfl

theorem sz34 : szc Tryd.prog 34 = some 1 := by kernel_rfl

theorem sz36 : szc Tryd.prog 36 = some 1 := by kernel_rfl

theorem sz37 : szc Tryd.prog 37 = some 3 := by kernel_rfl

theorem sz38 : szc Tryd.prog 38 = some 1 := by kernel_rfl

theorem sz39 : szc Tryd.prog 39 = some 1 := by kernel_rfl

theorem sz40 : szc Tryd.prog 40 = some 6 := by kernel_rfl

theorem sz41 : szc Tryd.prog 41 = some 6 := by kernel_rfl

theorem sz43 : szc Tryd.prog 43 = some 1 := by kernel_rfl

theorem sz45 : szc Tryd.prog 45 = some 1 := by kernel_rfl

theorem sz46 : szc Tryd.prog 46 = some 1 := by kernel_rfl

theorem sz47 : szc Tryd.prog 47 = some 12 := by kernel_rfl

theorem sz48 : szc Tryd.prog 48 = some 12 := by kernel_rfl

theorem sz49 : szc Tryd.prog 49 = some 1 := by kernel_rfl

theorem sz50 : szc Tryd.prog 50 = some 1 := by kernel_rfl

theorem sz51 : szc Tryd.prog 51 = some 1 := by kernel_rfl

theorem sz53 : szc Tryd.prog 53 = some 1 := by kernel_rfl

theorem sz54 : szc Tryd.prog 54 = some 1 := by kernel_rfl

theorem sz56 : szc Tryd.prog 56 = some 1 := by kernel_rfl

theorem sz57 : szc Tryd.prog 57 = some 1 := by kernel_rfl

theorem sz58 : szc Tryd.prog 58 = some 1 := by kernel_rfl

theorem sz59 : szc Tryd.prog 59 = some 1 := by kernel_rfl

theorem sz61 : szc Tryd.prog 61 = some 1 := by kernel_rfl

theorem sz62 : szc Tryd.prog 62 = some 1 := by kernel_rfl

theorem sz63 : szc Tryd.prog 63 = some 1 := by kernel_rfl

theorem sz64 : szc Tryd.prog 64 = some 1 := by kernel_rfl

theorem sz65 : szc Tryd.prog 65 = some 1 := by kernel_rfl

theorem sz66 : szc Tryd.prog 66 = some 1 := by kernel_rfl

theorem sz67 : szc Tryd.prog 67 = some 1 := by kernel_rfl

theorem sz68 : szc Tryd.prog 68 = some 1 := by kernel_rfl

theorem sz69 : szc Tryd.prog 69 = some 1 := by kernel_rfl

theorem sz70 : szc Tryd.prog 70 = some 1 := by kernel_rfl

theorem sz71 : szc Tryd.prog 71 = some 1 := by kernel_rfl

theorem sz73 : szc Tryd.prog 73 = some 1 := by kernel_rfl

theorem sz74 : szc Tryd.prog 74 = some 1 := by kernel_rfl

theorem sz75 : szc Tryd.prog 75 = some 1 := by kernel_rfl

theorem sz76 : szc Tryd.prog 76 = some 1 := by kernel_rfl

theorem sz77 : szc Tryd.prog 77 = some 1 := by kernel_rfl

theorem sz78 : szc Tryd.prog 78 = some 1 := by kernel_rfl

theorem sz79 : szc Tryd.prog 79 = some 1 := by kernel_rfl

theorem sz80 : szc Tryd.prog 80 = some 1 := by kernel_rfl

theorem sz82 : szc Tryd.prog 82 = some 1 := by kernel_rfl

theorem sz83 : szc Tryd.prog 83 = some 1 := by kernel_rfl

theorem sz84 : szc Tryd.prog 84 = some 2 := by kernel_rfl

theorem sz85 : szc Tryd.prog 85 = some 2 := by kernel_rfl

theorem sz86 : szc Tryd.prog 86 = some 1 := by kernel_rfl

theorem sz87 : szc Tryd.prog 87 = some 16 := by kernel_rfl

theorem sz88 : szc Tryd.prog 88 = some 3 := by kernel_rfl

theorem sz89 : szc Tryd.prog 89 = some 3 := by kernel_rfl

theorem sz90 : szc Tryd.prog 90 = some 1 := by kernel_rfl

theorem sz91 : szc Tryd.prog 91 = some 1 := by kernel_rfl

theorem sz92 : szc Tryd.prog 92 = some 1 := by kernel_rfl

theorem sz93 : szc Tryd.prog 93 = some 1 := by kernel_rfl

theorem sz94 : szc Tryd.prog 94 = some 1 := by kernel_rfl

theorem sz95 : szc Tryd.prog 95 = some 1 := by kernel_rfl

theorem sz96 : szc Tryd.prog 96 = some 32 := by kernel_rfl

theorem sz97 : szc Tryd.prog 97 = some 1 := by kernel_rfl

theorem sz98 : szc Tryd.prog 98 = some 1 := by kernel_rfl

theorem sz99 : szc Tryd.prog 99 = some 256 := by kernel_rfl

theorem sz100 : szc Tryd.prog 100 = some 1 := by kernel_rfl

theorem sz101 : szc Tryd.prog 101 = some 176 := by kernel_rfl

theorem sz102 : szc Tryd.prog 102 = some 432 := by kernel_rfl

theorem sz103 : szc Tryd.prog 103 = some 432 := by kernel_rfl

theorem sz104 : szc Tryd.prog 104 = some 4 := by kernel_rfl

theorem sz105 : szc Tryd.prog 105 = some 1 := by kernel_rfl

theorem sz106 : szc Tryd.prog 106 = some 1 := by kernel_rfl

theorem sz107 : szc Tryd.prog 107 = some 176 := by kernel_rfl

theorem sz108 : szc Tryd.prog 108 = some 176 := by kernel_rfl

theorem sz109 : szc Tryd.prog 109 = some 176 := by kernel_rfl

theorem sz110 : szc Tryd.prog 110 = some 1 := by kernel_rfl

theorem sz111 : szc Tryd.prog 111 = some 1 := by kernel_rfl

theorem sz112 : szc Tryd.prog 112 = some 1 := by kernel_rfl

theorem sz113 : szc Tryd.prog 113 = some 1 := by kernel_rfl

theorem sz114 : szc Tryd.prog 114 = some 1 := by kernel_rfl

theorem sz115 : szc Tryd.prog 115 = some 1 := by kernel_rfl

theorem sz116 : szc Tryd.prog 116 = some 1 := by kernel_rfl

theorem sz117 : szc Tryd.prog 117 = some 64 := by kernel_rfl

theorem sz118 : szc Tryd.prog 118 = some 1 := by kernel_rfl

theorem sz119 : szc Tryd.prog 119 = some 1 := by kernel_rfl

theorem sz120 : szc Tryd.prog 120 = some 1 := by kernel_rfl

theorem sz121 : szc Tryd.prog 121 = some 1 := by kernel_rfl

theorem sz122 : szc Tryd.prog 122 = some 1 := by kernel_rfl

theorem sz123 : szc Tryd.prog 123 = some 1 := by kernel_rfl

theorem sz124 : szc Tryd.prog 124 = some 1 := by kernel_rfl

theorem sz125 : szc Tryd.prog 125 = some 8 := by kernel_rfl

theorem sz126 : szc Tryd.prog 126 = some 10 := by kernel_rfl

theorem sz127 : szc Tryd.prog 127 = some 10 := by kernel_rfl

theorem sz128 : szc Tryd.prog 128 = some 1 := by kernel_rfl

theorem sz129 : szc Tryd.prog 129 = some 1 := by kernel_rfl

theorem sz130 : szc Tryd.prog 130 = some 128 := by kernel_rfl

theorem sz131 : szc Tryd.prog 131 = some 1 := by kernel_rfl

theorem sz132 : szc Tryd.prog 132 = some 256 := by kernel_rfl

theorem sz133 : szc Tryd.prog 133 = some 64 := by kernel_rfl

theorem sz134 : szc Tryd.prog 134 = some 1 := by kernel_rfl

theorem sz135 : szc Tryd.prog 135 = some 1 := by kernel_rfl

theorem sz136 : szc Tryd.prog 136 = some 4 := by kernel_rfl

theorem sz137 : szc Tryd.prog 137 = some 4 := by kernel_rfl

theorem sz138 : szc Tryd.prog 138 = some 0 := by kernel_rfl

theorem sz139 : szc Tryd.prog 139 = some 0 := by kernel_rfl

theorem sz140 : szc Tryd.prog 140 = some 0 := by kernel_rfl

theorem sz141 : szc Tryd.prog 141 = some 1 := by kernel_rfl

theorem sz142 : szc Tryd.prog 142 = some 1 := by kernel_rfl

theorem sz143 : szc Tryd.prog 143 = some 1 := by kernel_rfl

theorem sz144 : szc Tryd.prog 144 = some 1 := by kernel_rfl

theorem sz145 : szc Tryd.prog 145 = some 1 := by kernel_rfl

theorem sz146 : szc Tryd.prog 146 = some 1 := by kernel_rfl

theorem sz147 : szc Tryd.prog 147 = some 1 := by kernel_rfl

theorem sz148 : szc Tryd.prog 148 = some 11 := by kernel_rfl

theorem sz149 : szc Tryd.prog 149 = some 11 := by kernel_rfl

theorem sz150 : szc Tryd.prog 150 = some 1 := by kernel_rfl

theorem zc87 : zeroC Tryd.prog 87 = some (arr8 16 fun _ => 0) := by kernel_rfl

theorem zc96 : zeroC Tryd.prog 96 = some (arr8 32 fun _ => 0) := by kernel_rfl

theorem zc99 : zeroC Tryd.prog 99 = some (arr8 256 fun _ => 0) := by kernel_rfl

theorem zc101 : zeroC Tryd.prog 101 = some (arr8 176 fun _ => 0) := by kernel_rfl

theorem zc104 : zeroC Tryd.prog 104 = some (arr8 4 fun _ => 0) := by kernel_rfl

theorem zc117 : zeroC Tryd.prog 117 = some (arr8 64 fun _ => 0) := by kernel_rfl

theorem zc125 : zeroC Tryd.prog 125 = some (arr32 8 fun _ => 0) := by kernel_rfl

theorem zc133 : zeroC Tryd.prog 133 = some (arr32 64 fun _ => 0) := by kernel_rfl

theorem ze5 : zeroC Tryd.prog 5 = some #[V8 0] := by kernel_rfl

theorem bz5 : bytesOf Tryd.prog 5 = some 1 := by kernel_rfl

theorem ze6 : zeroC Tryd.prog 6 = some #[V8 0] := by kernel_rfl

theorem bz6 : bytesOf Tryd.prog 6 = some 1 := by kernel_rfl

theorem ze12 : zeroC Tryd.prog 12 = some #[V64 0] := by kernel_rfl

theorem bz12 : bytesOf Tryd.prog 12 = some 8 := by kernel_rfl

theorem ze49 : zeroC Tryd.prog 49 = some #[V64 0] := by kernel_rfl

theorem bz49 : bytesOf Tryd.prog 49 = some 8 := by kernel_rfl

theorem ze71 : zeroC Tryd.prog 71 = some #[V64 0] := by kernel_rfl

theorem bz71 : bytesOf Tryd.prog 71 = some 8 := by kernel_rfl

theorem ze113 : zeroC Tryd.prog 113 = some #[V32 0] := by kernel_rfl

theorem bz113 : bytesOf Tryd.prog 113 = some 4 := by kernel_rfl

theorem ze142 : zeroC Tryd.prog 142 = some #[V8 0] := by kernel_rfl

theorem bz142 : bytesOf Tryd.prog 142 = some 1 := by kernel_rfl

theorem ze143 : zeroC Tryd.prog 143 = some #[V8 0] := by kernel_rfl

theorem bz143 : bytesOf Tryd.prog 143 = some 1 := by kernel_rfl

theorem ba87 (x0 x1 x2 x3 x4 x5 x6 x7 x8 x9 x10 x11 x12 x13 x14 x15 : UInt8) : ∀ w, (Instr.build 87 [(0, V8 x0), (1, V8 x1), (2, V8 x2), (3, V8 x3), (4, V8 x4), (5, V8 x5), (6, V8 x6), (7, V8 x7), (8, V8 x8), (9, V8 x9), (10, V8 x10), (11, V8 x11), (12, V8 x12), (13, V8 x13), (14, V8 x14), (15, V8 x15)].toArray).run Tryd.prog w = .ok (.agg (arr8 16 fun i => [x0, x1, x2, x3, x4, x5, x6, x7, x8, x9, x10, x11, x12, x13, x14, x15].getD i 0)) w := fun w => by kernel_rfl

theorem ba104 (x0 x1 x2 x3 : UInt8) : ∀ w, (Instr.build 104 [(0, V8 x0), (1, V8 x1), (2, V8 x2), (3, V8 x3)].toArray).run Tryd.prog w = .ok (.agg (arr8 4 fun i => [x0, x1, x2, x3].getD i 0)) w := fun w => by kernel_rfl

theorem ba125 (x0 x1 x2 x3 x4 x5 x6 x7 : UInt32) : ∀ w, (Instr.build 125 [(0, V32 x0), (1, V32 x1), (2, V32 x2), (3, V32 x3), (4, V32 x4), (5, V32 x5), (6, V32 x6), (7, V32 x7)].toArray).run Tryd.prog w = .ok (.agg (arr32 8 fun i => [x0, x1, x2, x3, x4, x5, x6, x7].getD i 0)) w := fun w => by kernel_rfl

theorem bs0 : ∀ w, (Instr.buildSlice 22 0 [].toArray).run Tryd.prog w = .ok (.slice (some ⟨w.heap.size, 0, none⟩) 0 0) (w.alloc (.cells (bytes []) 5)) := fun w => by kernel_rfl

theorem bs1 (x0 : UInt8) : ∀ w, (Instr.buildSlice 22 1 [(0, V8 x0)].toArray).run Tryd.prog w = .ok (.slice (some ⟨w.heap.size, 0, none⟩) 1 1) (w.alloc (.cells (bytes [x0]) 5)) := fun w => by kernel_rfl

theorem bs2 (x0 x1 : UInt8) : ∀ w, (Instr.buildSlice 22 2 [(0, V8 x0), (1, V8 x1)].toArray).run Tryd.prog w = .ok (.slice (some ⟨w.heap.size, 0, none⟩) 2 2) (w.alloc (.cells (bytes [x0, x1]) 5)) := fun w => by kernel_rfl

theorem bs3 (x0 x1 x2 : UInt8) : ∀ w, (Instr.buildSlice 22 3 [(0, V8 x0), (1, V8 x1), (2, V8 x2)].toArray).run Tryd.prog w = .ok (.slice (some ⟨w.heap.size, 0, none⟩) 3 3) (w.alloc (.cells (bytes [x0, x1, x2]) 5)) := fun w => by kernel_rfl

theorem bs4 (x0 x1 x2 x3 : UInt8) : ∀ w, (Instr.buildSlice 22 4 [(0, V8 x0), (1, V8 x1), (2, V8 x2), (3, V8 x3)].toArray).run Tryd.prog w = .ok (.slice (some ⟨w.heap.size, 0, none⟩) 4 4) (w.alloc (.cells (bytes [x0, x1, x2, x3]) 5)) := fun w => by kernel_rfl

theorem bs5 (x0 x1 x2 x3 x4 : UInt8) : ∀ w, (Instr.buildSlice 22 5 [(0, V8 x0), (1, V8 x1), (2, V8 x2), (3, V8 x3), (4, V8 x4)].toArray).run Tryd.prog w = .ok (.slice (some ⟨w.heap.size, 0, none⟩) 5 5) (w.alloc (.cells (bytes [x0, x1, x2, x3, x4]) 5)) := fun w => by kernel_rfl

theorem bs6 (x0 x1 x2 x3 x4 x5 : UInt8) : ∀ w, (Instr.buildSlice 22 6 [(0, V8 x0), (1, V8 x1), (2, V8 x2), (3, V8 x3), (4, V8 x4), (5, V8 x5)].toArray).run Tryd.prog w = .ok (.slice (some ⟨w.heap.size, 0, none⟩) 6 6) (w.alloc (.cells (bytes [x0, x1, x2, x3, x4, x5]) 5)) := fun w => by kernel_rfl

theorem bs7 (x0 x1 x2 x3 x4 x5 x6 : UInt8) : ∀ w, (Instr.buildSlice 22 7 [(0, V8 x0), (1, V8 x1), (2, V8 x2), (3, V8 x3), (4, V8 x4), (5, V8 x5), (6, V8 x6)].toArray).run Tryd.prog w = .ok (.slice (some ⟨w.heap.size, 0, none⟩) 7 7) (w.alloc (.cells (bytes [x0, x1, x2, x3, x4, x5, x6]) 5)) := fun w => by kernel_rfl

theorem bs8 (x0 x1 x2 x3 x4 x5 x6 x7 : UInt8) : ∀ w, (Instr.buildSlice 22 8 [(0, V8 x0), (1, V8 x1), (2, V8 x2), (3, V8 x3), (4, V8 x4), (5, V8 x5), (6, V8 x6), (7, V8 x7)].toArray).run Tryd.prog w = .ok (.slice (some ⟨w.heap.size, 0, none⟩) 8 8) (w.alloc (.cells (bytes [x0, x1, x2, x3, x4, x5, x6, x7]) 5)) := fun w => by kernel_rfl

theorem bs9 (x0 x1 x2 x3 x4 x5 x6 x7 x8 : UInt8) : ∀ w, (Instr.buildSlice 22 9 [(0, V8 x0), (1, V8 x1), (2, V8 x2), (3, V8 x3), (4, V8 x4), (5, V8 x5), (6, V8 x6), (7, V8 x7), (8, V8 x8)].toArray).run Tryd.prog w = .ok (.slice (some ⟨w.heap.size, 0, none⟩) 9 9) (w.alloc (.cells (bytes [x0, x1, x2, x3, x4, x5, x6, x7, x8]) 5)) := fun w => by kernel_rfl

theorem bs10 (x0 x1 x2 x3 x4 x5 x6 x7 x8 x9 : UInt8) : ∀ w, (Instr.buildSlice 22 10 [(0, V8 x0), (1, V8 x1), (2, V8 x2), (3, V8 x3), (4, V8 x4), (5, V8 x5), (6, V8 x6), (7, V8 x7), (8, V8 x8), (9, V8 x9)].toArray).run Tryd.prog w = .ok (.slice (some ⟨w.heap.size, 0, none⟩) 10 10) (w.alloc (.cells (bytes [x0, x1, x2, x3, x4, x5, x6, x7, x8, x9]) 5)) := fun w => by kernel_rfl

theorem bs11 (x0 x1 x2 x3 x4 x5 x6 x7 x8 x9 x10 : UInt8) : ∀ w, (Instr.buildSlice 22 11 [(0, V8 x0), (1, V8 x1), (2, V8 x2), (3, V8 x3), (4, V8 x4), (5, V8 x5), (6, V8 x6), (7, V8 x7), (8, V8 x8), (9, V8 x9), (10, V8 x10)].toArray).run Tryd.prog w = .ok (.slice (some ⟨w.heap.size, 0, none⟩) 11 11) (w.alloc (.cells (bytes [x0, x1, x2, x3, x4, x5, x6, x7, x8, x9, x10]) 5)) := fun w => by kernel_rfl

theorem bs12 (x0 x1 x2 x3 x4 x5 x6 x7 x8 x9 x10 x11 : UInt8) : ∀ w, (Instr.buildSlice 22 12 [(0, V8 x0), (1, V8 x1), (2, V8 x2), (3, V8 x3), (4, V8 x4), (5, V8 x5), (6, V8 x6), (7, V8 x7), (8, V8 x8), (9, V8 x9), (10, V8 x10), (11, V8 x11)].toArray).run Tryd.prog w = .ok (.slice (some ⟨w.heap.size, 0, none⟩) 12 12) (w.alloc (.cells (bytes [x0, x1, x2, x3, x4, x5, x6, x7, x8, x9, x10, x11]) 5)) := fun w => by kernel_rfl

theorem bs13 (x0 x1 x2 x3 x4 x5 x6 x7 x8 x9 x10 x11 x12 : UInt8) : ∀ w, (Instr.buildSlice 22 13 [(0, V8 x0), (1, V8 x1), (2, V8 x2), (3, V8 x3), (4, V8 x4), (5, V8 x5), (6, V8 x6), (7, V8 x7), (8, V8 x8), (9, V8 x9), (10, V8 x10), (11, V8 x11), (12, V8 x12)].toArray).run Tryd.prog w = .ok (.slice (some ⟨w.heap.size, 0, none⟩) 13 13) (w.alloc (.cells (bytes [x0, x1, x2, x3, x4, x5, x6, x7, x8, x9, x10, x11, x12]) 5)) := fun w => by kernel_rfl

theorem bs14 (x0 x1 x2 x3 x4 x5 x6 x7 x8 x9 x10 x11 x12 x13 : UInt8) : ∀ w, (Instr.buildSlice 22 14 [(0, V8 x0), (1, V8 x1), (2, V8 x2), (3, V8 x3), (4, V8 x4), (5, V8 x5), (6, V8 x6), (7, V8 x7), (8, V8 x8), (9, V8 x9), (10, V8 x10), (11, V8 x11), (12, V8 x12), (13, V8 x13)].toArray).run Tryd.prog w = .ok (.slice (some ⟨w.heap.size, 0, none⟩) 14 14) (w.alloc (.cells (bytes [x0, x1, x2, x3, x4, x5, x6, x7, x8, x9, x10, x11, x12, x13]) 5)) := fun w => by kernel_rfl

theorem bs15 (x0 x1 x2 x3 x4 x5 x6 x7 x8 x9 x10 x11 x12 x13 x14 : UInt8) : ∀ w, (Instr.buildSlice 22 15 [(0, V8 x0), (1, V8 x1), (2, V8 x2), (3, V8 x3), (4, V8 x4), (5, V8 x5), (6, V8 x6), (7, V8 x7), (8, V8 x8), (9, V8 x9), (10, V8 x10), (11, V8 x11), (12, V8 x12), (13, V8 x13), (14, V8 x14)].toArray).run Tryd.prog w = .ok (.slice (some ⟨w.heap.size, 0, none⟩) 15 15) (w.alloc (.cells (bytes [x0, x1, x2, x3, x4, x5, x6, x7, x8, x9, x10, x11, x12, x13, x14]) 5)) := fun w => by kernel_rfl

theorem bs16 (x0 x1 x2 x3 x4 x5 x6 x7 x8 x9 x10 x11 x12 x13 x14 x15 : UInt8) : ∀ w, (Instr.buildSlice 22 16 [(0, V8 x0), (1, V8 x1), (2, V8 x2), (3, V8 x3), (4, V8 x4), (5, V8 x5), (6, V8 x6), (7, V8 x7), (8, V8 x8), (9, V8 x9), (10, V8 x10), (11, V8 x11), (12, V8 x12), (13, V8 x13), (14, V8 x14), (15, V8 x15)].toArray).run Tryd.prog w = .ok (.slice (some ⟨w.heap.size, 0, none⟩) 16 16) (w.alloc (.cells (bytes [x0, x1, x2, x3, x4, x5, x6, x7, x8, x9, x10, x11, x12, x13, x14, x15]) 5)) := fun w => by kernel_rfl

theorem cf3 : Callable Tryd.prog 3 := ⟨Tryd.f3, Tryd.func3, by kernel_rfl, by kernel_rfl⟩

theorem cf4 : Callable Tryd.prog 4 := ⟨Tryd.f4, Tryd.func4, by kernel_rfl, by kernel_rfl⟩

theorem cf5 : Callable Tryd.prog 5 := ⟨Tryd.f5, Tryd.func5, by kernel_rfl, by kernel_rfl⟩

theorem cf6 : Callable Tryd.prog 6 := ⟨Tryd.f6, Tryd.func6, by kernel_rfl, by kernel_rfl⟩

theorem cf7 : Callable Tryd.prog 7 := ⟨Tryd.f7, Tryd.func7, by kernel_rfl, by kernel_rfl⟩

theorem cf8 : Callable Tryd.prog 8 := ⟨Tryd.f8, Tryd.func8, by kernel_rfl, by kernel_rfl⟩

theorem cf9 : Callable Tryd.prog 9 := ⟨Tryd.f9, Tryd.func9, by kernel_rfl, by kernel_rfl⟩

theorem cf10 : Callable Tryd.prog 10 := ⟨Tryd.f10, Tryd.func10, by kernel_rfl, by kernel_rfl⟩

theorem cf11 : Callable Tryd.prog 11 := ⟨Tryd.f11, Tryd.func11, by kernel_rfl, by kernel_rfl⟩

theorem cf12 : Callable Tryd.prog 12 := ⟨Tryd.f12, Tryd.func12, by kernel_rfl, by kernel_rfl⟩

theorem cf13 : Callable Tryd.prog 13 := ⟨Tryd.f13, Tryd.func13, by kernel_rfl, by kernel_rfl⟩

theorem cf14 : Callable Tryd.prog 14 := ⟨Tryd.f14, Tryd.func14, by kernel_rfl, by kernel_rfl⟩

theorem cf15 : Callable Tryd.prog 15 := ⟨Tryd.f15, Tryd.func15, by kernel_rfl, by kernel_rfl⟩

theorem cf16 : Callable Tryd.prog 16 := ⟨Tryd.f16, Tryd.func16, by kernel_rfl, by kernel_rfl⟩

theorem cf17 : Callable Tryd.prog 17 := ⟨Tryd.f17, Tryd.func17, by kernel_rfl, by kernel_rfl⟩

theorem cf18 : Callable Tryd.prog 18 := ⟨Tryd.f18, Tryd.func18, by kernel_rfl, by kernel_rfl⟩

theorem cf19 : Callable Tryd.prog 19 := ⟨Tryd.f19, Tryd.func19, by kernel_rfl, by kernel_rfl⟩

theorem cf20 : Callable Tryd.prog 20 := ⟨Tryd.f20, Tryd.func20, by kernel_rfl, by kernel_rfl⟩

theorem cf21 : Callable Tryd.prog 21 := ⟨Tryd.f21, Tryd.func21, by kernel_rfl, by kernel_rfl⟩

theorem cf22 : Callable Tryd.prog 22 := ⟨Tryd.f22, Tryd.func22, by kernel_rfl, by kernel_rfl⟩

theorem cf23 : Callable Tryd.prog 23 := ⟨Tryd.f23, Tryd.func23, by kernel_rfl, by kernel_rfl⟩

theorem cf24 : Callable Tryd.prog 24 := ⟨Tryd.f24, Tryd.func24, by kernel_rfl, by kernel_rfl⟩

theorem cf25 : Callable Tryd.prog 25 := ⟨Tryd.f25, Tryd.func25, by kernel_rfl, by kernel_rfl⟩

theorem cf26 : Callable Tryd.prog 26 := ⟨Tryd.f26, Tryd.func26, by kernel_rfl, by kernel_rfl⟩

theorem cf27 : Callable Tryd.prog 27 := ⟨Tryd.f27, Tryd.func27, by kernel_rfl, by kernel_rfl⟩

theorem cf28 : Callable Tryd.prog 28 := ⟨Tryd.f28, Tryd.func28, by kernel_rfl, by kernel_rfl⟩

theorem cf29 : Callable Tryd.prog 29 := ⟨Tryd.f29, Tryd.func29, by kernel_rfl, by kernel_rfl⟩

theorem cf31 : Callable Tryd.prog 31 := ⟨Tryd.f31, Tryd.func31, by kernel_rfl, by kernel_rfl⟩

theorem cf32 : Callable Tryd.prog 32 := ⟨Tryd.f32, Tryd.func32, by kernel_rfl, by kernel_rfl⟩

theorem cf33 : Callable Tryd.prog 33 := ⟨Tryd.f33, Tryd.func33, by kernel_rfl, by kernel_rfl⟩

theorem cf34 : Callable Tryd.prog 34 := ⟨Tryd.f34, Tryd.func34, by kernel_rfl, by kernel_rfl⟩

theorem cf35 : Callable Tryd.prog 35 := ⟨Tryd.f35, Tryd.func35, by kernel_rfl, by kernel_rfl⟩

theorem cf36 : Callable Tryd.prog 36 := ⟨Tryd.f36, Tryd.func36, by kernel_rfl, by kernel_rfl⟩

theorem cf37 : Callable Tryd.prog 37 := ⟨Tryd.f37, Tryd.func37, by kernel_rfl, by kernel_rfl⟩

theorem cf38 : Callable Tryd.prog 38 := ⟨Tryd.f38, Tryd.func38, by kernel_rfl, by kernel_rfl⟩

theorem cf39 : Callable Tryd.prog 39 := ⟨Tryd.f39, Tryd.func39, by kernel_rfl, by kernel_rfl⟩

theorem cf40 : Callable Tryd.prog 40 := ⟨Tryd.f40, Tryd.func40, by kernel_rfl, by kernel_rfl⟩

theorem cf41 : Callable Tryd.prog 41 := ⟨Tryd.f41, Tryd.func41, by kernel_rfl, by kernel_rfl⟩

theorem cf42 : Callable Tryd.prog 42 := ⟨Tryd.f42, Tryd.func42, by kernel_rfl, by kernel_rfl⟩

theorem cf43 : Callable Tryd.prog 43 := ⟨Tryd.f43, Tryd.func43, by kernel_rfl, by kernel_rfl⟩

theorem cf44 : Callable Tryd.prog 44 := ⟨Tryd.f44, Tryd.func44, by kernel_rfl, by kernel_rfl⟩

theorem cf45 : Callable Tryd.prog 45 := ⟨Tryd.f45, Tryd.func45, by kernel_rfl, by kernel_rfl⟩

theorem cf46 : Callable Tryd.prog 46 := ⟨Tryd.f46, Tryd.func46, by kernel_rfl, by kernel_rfl⟩

theorem cf47 : Callable Tryd.prog 47 := ⟨Tryd.f47, Tryd.func47, by kernel_rfl, by kernel_rfl⟩

theorem cf48 : Callable Tryd.prog 48 := ⟨Tryd.f48, Tryd.func48, by kernel_rfl, by kernel_rfl⟩

theorem cf49 : Callable Tryd.prog 49 := ⟨Tryd.f49, Tryd.func49, by kernel_rfl, by kernel_rfl⟩

theorem cf50 : Callable Tryd.prog 50 := ⟨Tryd.f50, Tryd.func50, by kernel_rfl, by kernel_rfl⟩

theorem cf51 : Callable Tryd.prog 51 := ⟨Tryd.f51, Tryd.func51, by kernel_rfl, by kernel_rfl⟩

theorem cf52 : Callable Tryd.prog 52 := ⟨Tryd.f52, Tryd.func52, by kernel_rfl, by kernel_rfl⟩

theorem cf53 : Callable Tryd.prog 53 := ⟨Tryd.f53, Tryd.func53, by kernel_rfl, by kernel_rfl⟩

theorem cf54 : Callable Tryd.prog 54 := ⟨Tryd.f54, Tryd.func54, by kernel_rfl, by kernel_rfl⟩

theorem cf55 : Callable Tryd.prog 55 := ⟨Tryd.f55, Tryd.func55, by kernel_rfl, by kernel_rfl⟩

theorem cf56 : Callable Tryd.prog 56 := ⟨Tryd.f56, Tryd.func56, by kernel_rfl, by kernel_rfl⟩

theorem cf57 : Callable Tryd.prog 57 := ⟨Tryd.f57, Tryd.func57, by kernel_rfl, by kernel_rfl⟩

theorem cf58 : Callable Tryd.prog 58 := ⟨Tryd.f58, Tryd.func58, by kernel_rfl, by kernel_rfl⟩

theorem cf59 : Callable Tryd.prog 59 := ⟨Tryd.f59, Tryd.func59, by kernel_rfl, by kernel_rfl⟩

theorem cf60 : Callable Tryd.prog 60 := ⟨Tryd.f60, Tryd.func60, by kernel_rfl, by kernel_rfl⟩

theorem cf61 : Callable Tryd.prog 61 := ⟨Tryd.f61, Tryd.func61, by kernel_rfl, by kernel_rfl⟩

theorem cf62 : Callable Tryd.prog 62 := ⟨Tryd.f62, Tryd.func62, by kernel_rfl, by kernel_rfl⟩

theorem cf63 : Callable Tryd.prog 63 := ⟨Tryd.f63, Tryd.func63, by kernel_rfl, by kernel_rfl⟩

theorem cf64 : Callable Tryd.prog 64 := ⟨Tryd.f64, Tryd.func64, by kernel_rfl, by kernel_rfl⟩

theorem cf65 : Callable Tryd.prog 65 := ⟨Tryd.f65, Tryd.func65, by kernel_rfl, by kernel_rfl⟩

theorem cf66 : Callable Tryd.prog 66 := ⟨Tryd.f66, Tryd.func66, by kernel_rfl, by kernel_rfl⟩

theorem cf67 : Callable Tryd.prog 67 := ⟨Tryd.f67, Tryd.func67, by kernel_rfl, by kernel_rfl⟩

theorem cf68 : Callable Tryd.prog 68 := ⟨Tryd.f68, Tryd.func68, by kernel_rfl, by kernel_rfl⟩

theorem cf69 : Callable Tryd.prog 69 := ⟨Tryd.f69, Tryd.func69, by kernel_rfl, by kernel_rfl⟩

theorem cf70 : Callable Tryd.prog 70 := ⟨Tryd.f70, Tryd.func70, by kernel_rfl, by kernel_rfl⟩

theorem cf71 : Callable Tryd.prog 71 := ⟨Tryd.f71, Tryd.func71, by kernel_rfl, by kernel_rfl⟩

theorem cf72 : Callable Tryd.prog 72 := ⟨Tryd.f72, Tryd.func72, by kernel_rfl, by kernel_rfl⟩

theorem cf73 : Callable Tryd.prog 73 := ⟨Tryd.f73, Tryd.func73, by kernel_rfl, by kernel_rfl⟩

theorem cf74 : Callable Tryd.prog 74 := ⟨Tryd.f74, Tryd.func74, by kernel_rfl, by kernel_rfl⟩

theorem cf75 : Callable Tryd.prog 75 := ⟨Tryd.f75, Tryd.func75, by kernel_rfl, by kernel_rfl⟩

theorem cf76 : Callable Tryd.prog 76 := ⟨Tryd.f76, Tryd.func76, by kernel_rfl, by kernel_rfl⟩

theorem cf77 : Callable Tryd.prog 77 := ⟨Tryd.f77, Tryd.func77, by kernel_rfl, by kernel_rfl⟩

theorem cf78 : Callable Tryd.prog 78 := ⟨Tryd.f78, Tryd.func78, by kernel_rfl, by kernel_rfl⟩

end Go.Proofs.YtmoaddicejohgaaDoor
