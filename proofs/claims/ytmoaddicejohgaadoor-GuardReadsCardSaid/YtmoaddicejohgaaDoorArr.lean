/- Arrays of bytes under == and != -/
import Derived.Test.YtmoaddicejohgaaDoorSl
import Derived.ChangeKeysEq
set_option linter.unusedSimpArgs false
set_option linter.unusedVariables false
namespace Go.Proofs.YtmoaddicejohgaaDoor
open Go
/-- A value is built of parts. -/
theorem pr_build {P : Program} {a : Act} {d : Option Tmp} {ty : TypeId} {pos : String} {af : Array Edge} {g : Option (Nat × Bool)} {t : TypeId} {parts : List (Nat × Operand)} {vs : List (Nat × Value)} {v : Value}
    (hv : (parts.map fun p => (p.1, a.eval p.2)) = vs) (hrun : ∀ w, (Instr.build t vs.toArray).run P w = .ok v w) : PRun P ⟨d, .build t parts.toArray, ty, pos, af, g⟩ a v := fun w => by
  have hv' : (parts.toArray.map fun (p : Nat × Operand) => (p.1, a.eval p.2)) = vs.toArray := by rw [← hv]; simp
  simp only [execOp, Sem.run_bind]
  rw [show (parts.toArray.map fun x => match x with | (i, x) => (i, a.eval x)) = vs.toArray from hv', hrun w]
  rfl
section
variable {P : Program} {t e : TypeId} {x y : Operand}
theorem run_eqItems_arr8 {k : IntKind} (he : P.underlying e = some (.int k)) (hc : P.cellsOf e = 1) (d n : Nat) (f g : Nat → UInt8) (w : World) : ∀ (is : List Nat), (∀ i ∈ is, i < n) →
    (Op.eqItems (d + 1) e (P.cellsOf e) (arr8 n f) (arr8 n g) is).run P w = .ok (is.all fun i => f i == g i) w
  | [], _ => rfl
  | i :: is, h => by
    have hp : P.plainKey e = true := by unfold Program.plainKey; rw [he]
    have hi : i < n := h i (by simp)
    rw [hc]
    unfold Op.eqItems
    rw [Nat.mul_one]
    simp only [Sem.run_bind, run_part_plain w hp (arr8_get hi), Result.andThen_ok]
    rw [run_equalIn_int w d e .u8 k _ _ he]
    simp only [Result.andThen_ok, List.all_cons]
    have e1 : (((f i).toNat : Int) == ((g i).toNat : Int)) = (f i == g i) := by
      rw [Bool.eq_iff_iff]; simp only [beq_iff_eq]
      constructor
      · intro h; exact UInt8.toNat_inj.1 (by omega)
      · intro h; rw [h]
    rw [e1]
    have ih := run_eqItems_arr8 he hc d n f g w is fun j hj => h j (by simp [hj])
    rw [hc] at ih
    cases f i == g i
    · rfl
    · simpa using ih
theorem run_equal_arr8 {k : IntKind} {n : Nat} {f g : Nat → UInt8} (hu : P.underlying t = some (.array n e)) (he : P.underlying e = some (.int k)) (hs : szc P e = some 1) (d : Nat) (w : World) :
    (Op.equalIn (d + 2) t (.agg (arr8 n f)) (.agg (arr8 n g))).run P w = .ok ((List.range n).all fun i => f i == g i) w := by
  have hc : P.cellsOf e = 1 := by unfold szc at hs; unfold Program.cellsOf; rw [hs]; rfl
  have hi : ∃ i, P.info? e = some i := by
    unfold szc at hs
    cases h : P.info? e with
    | none => rw [h] at hs; cases hs
    | some i => exact ⟨i, rfl⟩
  obtain ⟨i, hi⟩ := hi
  rw [run_equalIn_array w (d + 1) _ _ hu hi]
  exact run_eqItems_arr8 he hc d n f g w _ fun j hj => List.mem_range.1 hj
theorem bin_eql_arr8 {k : IntKind} {n : Nat} {f g : Nat → UInt8} (hu : P.underlying t = some (.array n e)) (he : P.underlying e = some (.int k)) (hs : szc P e = some 1) (hg : P.eqGuardType P.depth t = false) :
    Bin P .eql t x y (.agg (arr8 n f)) (.agg (arr8 n g)) (BV ((List.range n).all fun i => f i == g i)) := fun w => by
  have h0 := run_eqGuard_agg w .eql t x y (arr8 n f) (arr8 n g) hg
  have h1 := run_equal_arr8 (f := f) (g := g) hu he hs 9998 w
  rw [Sem.run_bind, h0]
  simp only [Result.andThen_ok]
  rw [run_eql_struct]
  show (Sem.run P (Op.equalIn (9998 + 2) t _ _) w).andThen _ = _
  rw [h1]; rfl
theorem bin_neq_arr8 {k : IntKind} {n : Nat} {f g : Nat → UInt8} (hu : P.underlying t = some (.array n e)) (he : P.underlying e = some (.int k)) (hs : szc P e = some 1) (hg : P.eqGuardType P.depth t = false) :
    Bin P .neq t x y (.agg (arr8 n f)) (.agg (arr8 n g)) (BV (!(List.range n).all fun i => f i == g i)) := fun w => by
  have h0 := run_eqGuard_agg w .neq t x y (arr8 n f) (arr8 n g) hg
  have h1 := run_equal_arr8 (f := f) (g := g) hu he hs 9998 w
  rw [Sem.run_bind, h0]
  simp only [Result.andThen_ok]
  rw [run_neq_struct]
  show (Sem.run P (Op.equalIn (9998 + 2) t _ _) w).andThen _ = _
  rw [h1]; rfl
end
end Go.Proofs.YtmoaddicejohgaaDoor
