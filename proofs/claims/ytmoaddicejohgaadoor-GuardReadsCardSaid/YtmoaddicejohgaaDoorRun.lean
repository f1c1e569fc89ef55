/- What single operations do. -/
import Derived.Test.YtmoaddicejohgaaDoorMem
import Derived.Test.YtmoaddicejohgaaDoorPlan
set_option linter.unusedSimpArgs false
set_option linter.unusedVariables false
namespace Go.Proofs.YtmoaddicejohgaaDoor
open Go

def szc (P : Program) (t : TypeId) : Option Nat := (P.info? t).map (·.size)
/-- The operation yields v, whatever the world, which stays. -/
def PRun (P : Program) (o : Oper) (a : Act) (v : Value) : Prop := ∀ w, (execOp a.eval o).run P w = .ok (.value v) w
/-- The operation yields v in this world, which stays. -/
def LRun (P : Program) (o : Oper) (a : Act) (w : World) (v : Value) : Prop := (execOp a.eval o).run P w = .ok (.value v) w
theorem PRun.l {P : Program} {o : Oper} {a : Act} {v : Value} (h : PRun P o a v) (w : World) : LRun P o a w v := h w

section
variable {P : Program} {a : Act} {d : Option Tmp} {ty : TypeId} {pos : String} {af : Array Edge} {g : Option (Nat × Bool)} {x y : Operand} {t : TypeId}

theorem run_ok_value {s : Sem Value} {w w' : World} {v : Value} (h : s.run P w = .ok v w') : (do pure (.value (← s)) : Sem Next).run P w = .ok (.value v) w' := by
  rw [Sem.run_bind, h]; rfl

theorem pr_move : PRun P ⟨d, .move x, ty, pos, af, g⟩ a (a.eval x) := fun _ => rfl
theorem pr_assign : PRun P ⟨d, .assign x, ty, pos, af, g⟩ a (a.eval x) := fun _ => rfl
theorem pr_bin {op : BinOp} {vx vy v : Value} {t' : TypeId} (hx : a.eval x = vx) (hy : a.eval y = vy) (h : Bin P op t x y vx vy v) : PRun P ⟨d, .binOp op t x y t', ty, pos, af, g⟩ a v := fun w => by
  subst hx; subst hy; exact run_ok_value (h w)
theorem pr_conv {s : TypeId} {vx v : Value} (hx : a.eval x = vx) (h : Cnv P s t vx v) : PRun P ⟨d, .convert s t x, ty, pos, af, g⟩ a v := fun w => by
  subst hx; exact run_ok_value (h w)
theorem pr_not {b : Bool} (hx : a.eval x = .bool b) : PRun P ⟨d, .unOp .not t x, ty, pos, af, g⟩ a (.bool !b) := fun w => by
  refine run_ok_value (w := w) ?_
  rw [hx]; rfl
theorem pr_neg64 {b : UInt64} (hx : a.eval x = V64 b) : PRun P ⟨d, .unOp .neg t x, ty, pos, af, g⟩ a (V64 (-b)) := fun w => by
  refine run_ok_value (w := w) ?_
  rw [hx]
  have h := bin_sub_u64 (P := P) (t := t) (x := x) (y := x) 0 b w
  rw [Sem.run_bind, run_eqGuard_int] at h
  rw [show -b = 0 - b by simp]
  exact h
theorem pr_extract {vs : Array Value} {i : Nat} {v : Value} (hx : a.eval x = .tuple vs) (hv : vs[i]? = some v) : PRun P ⟨d, .extract x i, ty, pos, af, g⟩ a v := fun w => by
  refine run_ok_value (w := w) ?_
  simp only [hx, Instr.extract, hv]; rfl
theorem pr_pick {c : Operand} {b : Bool} (hc : a.eval c = .bool b) : PRun P ⟨d, .pick c x y, ty, pos, af, g⟩ a (if b then a.eval x else a.eval y) := fun w => by
  simp only [execOp, hc, asBool, Sem.run_bind, Sem.run_pure, Result.andThen_ok]
theorem pr_move_v {v : Value} (hx : a.eval x = v) : PRun P ⟨d, .move x, ty, pos, af, g⟩ a v := hx ▸ pr_move
theorem pr_pick_t {c : Operand} (hc : a.eval c = .bool true) : PRun P ⟨d, .pick c x y, ty, pos, af, g⟩ a (a.eval x) := pr_pick (b := true) hc
theorem pr_pick_f {c : Operand} (hc : a.eval c = .bool false) : PRun P ⟨d, .pick c x y, ty, pos, af, g⟩ a (a.eval y) := pr_pick (b := false) hc
theorem pr_nilCheck {ad : Addr} (hx : a.eval x = .pointer (some ad)) : PRun P ⟨d, .nilCheck x, ty, pos, af, g⟩ a (.pointer (some ad)) := fun w => by
  simp only [execOp, hx]; rfl

/-! builtins that only look at values -/
theorem pr_len_sl {e : TypeId} {ad : Option Addr} {n c : Nat} (hx : a.eval x = .slice ad n c) (hu : P.underlying t = some (.slice e)) : PRun P ⟨d, .call ⟨.builtin .len, #[x], #[t]⟩, ty, pos, af, g⟩ a (I64 (n : Nat)) := fun w => by
  simp [execOp, resolve, invoke, builtin, Builtin.len_, hx, run_underlying hu, goInt]
theorem pr_len_str {s : ByteArray} (hx : a.eval x = .string s) (hu : P.underlying t = some .string) : PRun P ⟨d, .call ⟨.builtin .len, #[x], #[t]⟩, ty, pos, af, g⟩ a (I64 (s.size : Nat)) := fun w => by
  simp [execOp, resolve, invoke, builtin, Builtin.len_, hx, run_underlying hu, goInt]
theorem pr_min {k k' : IntKind} {m n : Int} {ts : Array TypeId} (hx : a.eval x = .int k m) (hy : a.eval y = .int k' n) : PRun P ⟨d, .call ⟨.builtin .min, #[x, y], ts⟩, ty, pos, af, g⟩ a (.int k (if n < m then n else m)) := fun w => by
  simp [execOp, resolve, invoke, builtin, Builtin.min_, Builtin.min2, hx, hy]
theorem pr_min_n {m n : Nat} {ts : Array TypeId} (hx : a.eval x = I64 m) (hy : a.eval y = I64 n) : PRun P ⟨d, .call ⟨.builtin .min, #[x, y], ts⟩, ty, pos, af, g⟩ a (I64 (min m n : Nat)) := fun w => by
  rw [pr_min hx hy w]
  have : (if (n : Int) < (m : Int) then (n : Int) else (m : Int)) = ((min m n : Nat) : Int) := by split <;> omega
  rw [this]

/-! addresses -/
theorem addr_add (b o n : Nat) : (⟨b, o, none⟩ : Addr).add n = ⟨b, o + n, none⟩ := by unfold Addr.add; split <;> simp_all
theorem run_sizeOf {n : Nat} (h : szc P t = some n) (w : World) : (sizeOf t).run P w = .ok n w := by
  unfold szc at h
  obtain ⟨i, hi, rfl⟩ := Option.map_eq_some_iff.1 h
  simp [sizeOf, typeInfo, hi]
theorem pr_fieldAddr {fs : List Field} {f : Field} {i b o n : Nat} (off : Nat) (hx : a.eval x = PT b o) (hu : P.underlying t = some (.struct fs.toArray)) (hf : fs[i]? = some f) (ho : f.offset = off) (hz : szc P f.type = some (n + 1)) :
    PRun P ⟨d, .fieldAddr t x i, ty, pos, af, g⟩ a (PT b (o + off)) := fun w => by
  refine run_ok_value (w := w) ?_
  simp [hx, Instr.fieldAt, run_underlying hu, hf, Instr.sureAddr, fieldPlace, run_sizeOf hz, addr_add, ho]
theorem pr_field {fs : Array Field} {f : Field} {i : Nat} {cs : Array Value} {v : Value} (hx : a.eval x = .agg cs) (hu : P.underlying t = some (.struct fs)) (hf : fs[i]? = some f) (hv : cs[f.offset]? = some v)
    (hz : ∀ w, (isAgg f.type).run P w = .ok false w) : PRun P ⟨d, .field t x i, ty, pos, af, g⟩ a v := fun w => by
  refine run_ok_value (w := w) ?_
  simp [hx, Instr.field, run_underlying hu, hf, asAgg, part, hz, hv]
theorem pr_idxA {k : IntKind} {e : TypeId} {n s b o i : Nat} (hx : a.eval x = PT b o) (hy : a.eval y = .int k (i : Int)) (hu : P.underlying t = some (.array n e)) (hs : szc P e = some s) (hi : i < n) :
    PRun P ⟨d, .indexAddr t x y, ty, pos, af, g⟩ a (PT b (o + i * s)) := fun w => by
  refine run_ok_value (w := w) ?_
  have h1 : (0 : Int) ≤ (i : Int) ∧ (i : Int) < (n : Int) := by omega
  simp [hx, hy, Instr.indexAt, asIntOf, run_underlying hu, Instr.sureAddr, run_sizeOf hs, addr_add]
  omega
theorem pr_idxA1 {k : IntKind} {e : TypeId} {n b o i : Nat} (hx : a.eval x = PT b o) (hy : a.eval y = .int k (i : Int)) (hu : P.underlying t = some (.array n e)) (hs : szc P e = some 1) (hi : i < n) :
    PRun P ⟨d, .indexAddr t x y, ty, pos, af, g⟩ a (PT b (o + i)) := by
  have := pr_idxA (d := d) (ty := ty) (pos := pos) (af := af) (g := g) hx hy hu hs hi
  simpa using this
theorem pr_idxS {k : IntKind} {e : TypeId} {n c s b o i : Nat} (hx : a.eval x = .slice (some ⟨b, o, none⟩) n c) (hy : a.eval y = .int k (i : Int)) (hu : P.underlying t = some (.slice e)) (hs : szc P e = some s) (hi : i < n) :
    PRun P ⟨d, .indexAddr t x y, ty, pos, af, g⟩ a (PT b (o + i * s)) := fun w => by
  refine run_ok_value (w := w) ?_
  have h1 : (0 : Int) ≤ (i : Int) ∧ (i : Int) < (n : Int) := by omega
  simp [hx, hy, Instr.indexAt, asIntOf, run_underlying hu, run_sizeOf hs, addr_add]
  omega
theorem pr_idxS1 {k : IntKind} {e : TypeId} {n c b o i : Nat} (hx : a.eval x = .slice (some ⟨b, o, none⟩) n c) (hy : a.eval y = .int k (i : Int)) (hu : P.underlying t = some (.slice e)) (hs : szc P e = some 1) (hi : i < n) :
    PRun P ⟨d, .indexAddr t x y, ty, pos, af, g⟩ a (PT b (o + i)) := by
  have := pr_idxS (d := d) (ty := ty) (pos := pos) (af := af) (g := g) hx hy hu hs hi
  simpa using this
theorem pr_index_str {k : IntKind} {i : Nat} {s : ByteArray} (hx : a.eval x = .string s) (hy : a.eval y = .int k (i : Int)) (hu : P.underlying t = some .string) (hi : i < s.size) :
    PRun P ⟨d, .index t x y, ty, pos, af, g⟩ a (V8 (s[i]'hi)) := fun w => by
  refine run_ok_value (w := w) ?_
  have h1 : (0 : Int) ≤ (i : Int) := by omega
  simp [hx, hy, Instr.index, asIntOf, run_underlying hu, hi]
theorem pr_index_arr {k : IntKind} {e : TypeId} {n i : Nat} {cs : Array Value} {v : Value} (hx : a.eval x = .agg cs) (hy : a.eval y = .int k (i : Int)) (hu : P.underlying t = some (.array n e)) (hs : szc P e = some 1)
    (hz : ∀ w, (isAgg e).run P w = .ok false w) (hi : i < n) (hv : cs[i]? = some v) : PRun P ⟨d, .index t x y, ty, pos, af, g⟩ a v := fun w => by
  refine run_ok_value (w := w) ?_
  have h1 : (0 : Int) ≤ (i : Int) ∧ (i : Int) < (n : Int) := by omega
  simp [hx, hy, Instr.index, asIntOf, run_underlying hu, run_sizeOf hs, part, hz, hv]
  omega

/-! slicing -/
theorem run_bound {k : IntKind} {i y : Nat} (h : i ≤ y) (c : BoundsCode) (w : World) : (Instr.sliceBound (.int k (i : Int)) y c).run P w = .ok i w := by
  have h1 : (0 : Int) ≤ (i : Int) ∧ (i : Int) ≤ (y : Int) := by omega
  simp [Instr.sliceBound, asIntOf]
  omega

/-- Where a slice's first element lies behind a cut (l elements off, m the new capacity's end). -/
def cutA (ad : Option Addr) (l m s : Nat) : Option Addr := if m = l then ad else ad.map (·.add (l * s))
theorem pr_slice_lh {k k' : IntKind} {e : TypeId} {ad : Option Addr} {n c s l h : Nat} {xl xh : Operand} (hx : a.eval x = .slice ad n c) (hl : a.eval xl = .int k (l : Int)) (hh : a.eval xh = .int k' (h : Int))
    (hu : P.underlying t = some (.slice e)) (hs : szc P e = some s) (h1 : l ≤ h) (h2 : h ≤ c) : PRun P ⟨d, .slice t x (some xl) (some xh) none, ty, pos, af, g⟩ a (.slice (cutA ad l c s) (h - l) (c - l)) := fun w => by
  refine run_ok_value (w := w) ?_
  simp [hx, hl, hh, Instr.sliceAt, Instr.slice, run_underlying hu, Instr.sliceBounds, run_bound h1, run_bound h2, run_sizeOf hs, cutA]
theorem pr_slice_h {k' : IntKind} {e : TypeId} {ad : Option Addr} {n c s h : Nat} {xh : Operand} (hx : a.eval x = .slice ad n c) (hh : a.eval xh = .int k' (h : Int))
    (hu : P.underlying t = some (.slice e)) (hs : szc P e = some s) (h2 : h ≤ c) : PRun P ⟨d, .slice t x none (some xh) none, ty, pos, af, g⟩ a (.slice ad h c) := fun w => by
  refine run_ok_value (w := w) ?_
  have e0 : (if c = 0 then ad else ad.map fun a => a.add 0) = ad := by
    split
    · rfl
    · cases ad <;> simp [Addr.add]
  simp [hx, hh, Instr.sliceAt, Instr.slice, run_underlying hu, Instr.sliceBounds, run_bound h2, run_sizeOf hs, e0]
theorem pr_slice_l {k : IntKind} {e : TypeId} {ad : Option Addr} {n c s l : Nat} {xl : Operand} (hx : a.eval x = .slice ad n c) (hl : a.eval xl = .int k (l : Int))
    (hu : P.underlying t = some (.slice e)) (hs : szc P e = some s) (h1 : l ≤ n) : PRun P ⟨d, .slice t x (some xl) none none, ty, pos, af, g⟩ a (.slice (cutA ad l c s) (n - l) (c - l)) := fun w => by
  refine run_ok_value (w := w) ?_
  simp [hx, hl, Instr.sliceAt, Instr.slice, run_underlying hu, Instr.sliceBounds, run_bound h1, run_sizeOf hs, cutA]
theorem pr_slice_all {e : TypeId} {ad : Option Addr} {n c s : Nat} (hx : a.eval x = .slice ad n c) (hu : P.underlying t = some (.slice e)) (hs : szc P e = some s) : PRun P ⟨d, .slice t x none none none, ty, pos, af, g⟩ a (.slice ad n c) := fun w => by
  refine run_ok_value (w := w) ?_
  have e0 : (if c = 0 then ad else ad.map fun a => a.add 0) = ad := by
    split
    · rfl
    · cases ad <;> simp [Addr.add]
  simp [hx, Instr.sliceAt, Instr.slice, run_underlying hu, Instr.sliceBounds, run_sizeOf hs, e0]
theorem pr_slice_str_lh {k k' : IntKind} {st : ByteArray} {l h : Nat} {xl xh : Operand} (hx : a.eval x = .string st) (hl : a.eval xl = .int k (l : Int)) (hh : a.eval xh = .int k' (h : Int))
    (hu : P.underlying t = some .string) (h1 : l ≤ h) (h2 : h ≤ st.size) : PRun P ⟨d, .slice t x (some xl) (some xh) none, ty, pos, af, g⟩ a (.string (st.extract l h)) := fun w => by
  refine run_ok_value (w := w) ?_
  simp [hx, hl, hh, Instr.sliceAt, Instr.slice, run_underlying hu, Instr.sliceBounds, run_bound h1, run_bound h2]
theorem pr_slice_str_h {k' : IntKind} {st : ByteArray} {h : Nat} {xh : Operand} (hx : a.eval x = .string st) (hh : a.eval xh = .int k' (h : Int))
    (hu : P.underlying t = some .string) (h2 : h ≤ st.size) : PRun P ⟨d, .slice t x none (some xh) none, ty, pos, af, g⟩ a (.string (st.extract 0 h)) := fun w => by
  refine run_ok_value (w := w) ?_
  simp [hx, hh, Instr.sliceAt, Instr.slice, run_underlying hu, Instr.sliceBounds, run_bound h2]
theorem pr_slice_str_l {k : IntKind} {st : ByteArray} {l : Nat} {xl : Operand} (hx : a.eval x = .string st) (hl : a.eval xl = .int k (l : Int))
    (hu : P.underlying t = some .string) (h1 : l ≤ st.size) : PRun P ⟨d, .slice t x (some xl) none none, ty, pos, af, g⟩ a (.string (st.extract l st.size)) := fun w => by
  refine run_ok_value (w := w) ?_
  simp [hx, hl, Instr.sliceAt, Instr.slice, run_underlying hu, Instr.sliceBounds, run_bound h1]
/-- Slices of an array that lies at an address (type t: the array's). -/
theorem pr_slice_arr_lh {k k' : IntKind} {e : TypeId} {n s b o l h : Nat} {xl xh : Operand} (hx : a.eval x = PT b o) (hl : a.eval xl = .int k (l : Int)) (hh : a.eval xh = .int k' (h : Int))
    (hu : P.underlying t = some (.array n e)) (hs : szc P e = some s) (h1 : l ≤ h) (h2 : h ≤ n) : PRun P ⟨d, .slice t x (some xl) (some xh) none, ty, pos, af, g⟩ a (.slice (cutA (some ⟨b, o, none⟩) l n s) (h - l) (n - l)) := fun w => by
  refine run_ok_value (w := w) ?_
  simp only [hx, hl, hh, Option.map_some, Option.map_none, Instr.sliceAt, run_underlying hu, Sem.run_bind, Result.andThen_ok, Instr.sureAddr, Instr.sliceBounds, run_bound h1, run_bound h2, run_sizeOf hs, cutA, Sem.run_pure]
  split <;> rfl
theorem pr_slice_arr_all {e : TypeId} {n s b o : Nat} (hx : a.eval x = PT b o) (hu : P.underlying t = some (.array n e)) (hs : szc P e = some s) : PRun P ⟨d, .slice t x none none none, ty, pos, af, g⟩ a (.slice (some ⟨b, o, none⟩) n n) := fun w => by
  refine run_ok_value (w := w) ?_
  simp [hx, Instr.sliceAt, run_underlying hu, Instr.sureAddr, Instr.sliceBounds, run_sizeOf hs, Addr.add]
theorem pr_slice_arr_h {k' : IntKind} {e : TypeId} {n s b o h : Nat} {xh : Operand} (hx : a.eval x = PT b o) (hh : a.eval xh = .int k' (h : Int))
    (hu : P.underlying t = some (.array n e)) (hs : szc P e = some s) (h2 : h ≤ n) : PRun P ⟨d, .slice t x none (some xh) none, ty, pos, af, g⟩ a (.slice (some ⟨b, o, none⟩) h n) := fun w => by
  refine run_ok_value (w := w) ?_
  simp [hx, hh, Instr.sliceAt, run_underlying hu, Instr.sureAddr, Instr.sliceBounds, run_bound h2, run_sizeOf hs, Addr.add]
theorem pr_slice_arr_l {k : IntKind} {e : TypeId} {n s b o l : Nat} {xl : Operand} (hx : a.eval x = PT b o) (hl : a.eval xl = .int k (l : Int))
    (hu : P.underlying t = some (.array n e)) (hs : szc P e = some s) (h1 : l ≤ n) : PRun P ⟨d, .slice t x (some xl) none none, ty, pos, af, g⟩ a (.slice (cutA (some ⟨b, o, none⟩) l n s) (n - l) (n - l)) := fun w => by
  refine run_ok_value (w := w) ?_
  simp only [hx, hl, Option.map_some, Option.map_none, Instr.sliceAt, run_underlying hu, Sem.run_bind, Result.andThen_ok, Instr.sureAddr, Instr.sliceBounds, run_bound h1, run_sizeOf hs, cutA, Sem.run_pure]
  split <;> rfl
theorem pr_s2ap {e : TypeId} {ad : Addr} {m n c : Nat} (hx : a.eval x = .slice (some ad) n c) (hu : P.underlying t = some (.array m e)) (h : m ≤ n) : PRun P ⟨d, .sliceToArrayPointer t x, ty, pos, af, g⟩ a (.pointer (some ad)) := fun w => by
  refine run_ok_value (w := w) ?_
  have h1 : ¬ n < m := by omega
  simp [hx, Instr.arrayAt, run_underlying hu, h1]
end
end Go.Proofs.YtmoaddicejohgaaDoor
