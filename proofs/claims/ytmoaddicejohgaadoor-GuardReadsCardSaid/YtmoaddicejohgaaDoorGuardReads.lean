/- Proves Rows.GuardReadsSaid: for every input the law returns true, and what was handed in reads as it read before, where sha's variables hold what the program's text lays. -/
import Derived.Test.YtmoaddicejohgaaDoorGuard7
import Derived.Test.YtmoaddicejohgaaDoorLaid
import Derived.ChangeMaps5
import Derived.Test.YtmoaddicejohgaaDoorOpen10
set_option linter.unusedSimpArgs false
set_option linter.unusedVariables false
set_option maxRecDepth 100000
set_option maxHeartbeats 4000000
namespace Go.Proofs.YtmoaddicejohgaaDoor
open Go
open List (getD_cons_zero getD_cons_succ set_cons_zero set_cons_succ)

open Go.ChangeShapes Go.WideShapes Go.RowKit
theorem guardReadsLifted (os : Os) (started : os.Started) (H : Type) (enc : TypeId × Value → H) :
    ReturnsInHanded {} Tryd.checked os 5 .any (fun w args => (Rows.guardReadsSpec.pre enc Tryd.prog Tryd.f5 [] false w args ∧ laidMetH Tryd.prog laidL w) ∧ sizedMet enc Tryd.prog Tryd.f5 (OpenSpec.ofChange Rows.guardReadsSpec) false w args) (Rows.guardReadsSpec.post enc Tryd.prog Tryd.f5 false true false false) := by
  refine law_lifted_laid started (by kernel_rfl) Tryd.func5
    (ChangeSpec.witness_shaped (enc := enc) (C := Tryd.checked) (os := os) (X := fun w _ => laidMetH Tryd.prog laidL w) false (World.doorLaid Tryd.prog 400 os) #[.agg #[.string ⟨#[]⟩, .string ⟨#[]⟩, .string ⟨#[]⟩, .slice none 0 0, I64 0, I64 0]] 8 rfl (World.shaped_of_RefB (by kernel_rfl) (by kernel_rfl)) (by kernel_rfl) (by kernel_rfl) (by kernel_rfl) (door_met os _)) (by kernel_rfl) (by kernel_rfl) Tryd.underlying4 rfl
    (fun ds hds => ?_) ?_
  · rw [Tryd.params5] at hds
    match ds, hds with
    | [d0], _ => rfl
  · intro W base args ds p hT hval hA hwt
    have hval' : ∀ (j : Nat) t v, Tryd.f5.params[j]? = some t → args[j]? = some v → Value.okWide Tryd.prog W .any base t v := hval
    replace hA : DataW.TrodAll enc Tryd.prog W 0 (fun _ => true) true Tryd.f5.params.toList args.toList ds p := hA
    rw [Tryd.params5] at hA hval' hwt
    obtain ⟨v0, vs0, d0, ds0, p0, q0, hargs, rfl, rfl, h0, r0⟩ := ChangeShapes.trodAll_cons hA
    obtain ⟨rfl, rfl, rfl⟩ := ChangeShapes.trodAll_nil r0
    obtain rfl : args = #[v0] := by cases args; simp_all
    obtain ⟨a, b, c, bv, l, p, e, rfl, hxa, hxb, hxc, hsl, hbp, hbe⟩ := open_sealed (hval' 0 41 v0 rfl rfl) h0
    exact reads_calls a b c bv l p e W hsl.1 hsl.2 hbp.1 hbp.2 hT

theorem guardReads_row : Rows.GuardReadsSaid :=
  OpenClaim.holds_of_wide 5 Tryd.f5 rfl rfl rfl rfl rfl rfl rfl ⟨rfl, rfl, rfl, rfl, rfl⟩ rfl rfl rfl rfl rfl (by kernel_rfl) Tryd.func5 (by kernel_rfl)
    (of_decide_eq_true (by kernel_rfl)) (by unfold Func.isWrapper; first | (rw [if_pos (by decide +kernel)]; kernel_rfl) | (rw [if_neg (by decide +kernel)]; exact ⟨rfl, rfl⟩))
    (fun os started H enc _ => guardReadsLifted os started H enc)

end Go.Proofs.YtmoaddicejohgaaDoor
