/- Proves Rows.AesCountsSaid: for every input the law returns true, and what was handed in reads as it read before. No conditions. -/
import Derived.Test.YtjbohfonjalfnaaAesC
import Derived.Test.YtjbohfonjalfnaaFrame
import Derived.Test.YtjbohfonjalfnaaRows
set_option linter.unusedSimpArgs false
set_option linter.unusedVariables false
set_option maxRecDepth 100000
set_option maxHeartbeats 4000000
namespace Go.Proofs.Ytjbohfonjalfnaa
open Go

theorem aesCountsLifted (os : Os) (started : os.Started) (H : Type) (enc : TypeId × Value → H) :
    ReturnsInHanded {} Try.checked os 8 .any (Rows.aesCountsSpec.pre6 enc Try.prog Try.f8 Rows.aesCountsRow.domain false) (Rows.aesCountsSpec.post enc Try.prog Try.f8 false true false false) := by
  refine law_lifted (C := Try.checked) (by kernel_rfl) started (by kernel_rfl) Try.func8
    (ChangeSpec.witness6 (enc := enc) (C := Try.checked) false ⟨#[], #[.agg (flowC (fun _ => 0) (fun _ => 0) 0 (.slice none 0 0)), I64 0], []⟩ 8 (by kernel_rfl) (by kernel_rfl) (by kernel_rfl) (by kernel_rfl)) (by kernel_rfl) (by kernel_rfl) (by kernel_rfl) Try.underlying4 rfl
    (fun ds hds => ?_) ?_
  · rw [Try.params8] at hds
    match ds, hds with
    | [d0, d1], _ => rfl
  · intro W base args ds p hval hA
    have hval' : ∀ (j : Nat) t v, Try.f8.params[j]? = some t → args[j]? = some v → Value.okWide Try.prog W .any base t v := hval
    replace hA : DataW.TrodAll enc Try.prog W 0 (fun _ => true) true Try.f8.params.toList args.toList ds p := hA
    rw [Try.params8] at hA hval'
    obtain ⟨v0, vs0, d0, ds0, p0, q0, hargs, rfl, rfl, h0, r0⟩ := ChangeShapes.trodAll_cons hA
    obtain ⟨v1, vs1, d1, ds1, p1, q1, rfl, rfl, rfl, h1, r1⟩ := ChangeShapes.trodAll_cons r0
    obtain ⟨rfl, rfl, rfl⟩ := ChangeShapes.trodAll_nil r1
    obtain rfl : args = #[v0, v1] := by cases args; simp_all
    obtain ⟨f0, g0, a0, sv0, l0, rfl, hl0, hn0, ha0, hb0⟩ := open_flow Try.underlying40 rfl rfl rfl rfl Try.underlying22 Try.underlying5 sz5 sz22 Try.underlying3 sz3 Try.underlying27 sz27 sz40 (hval' 0 40 v0 rfl rfl) h0
    obtain ⟨a1, rfl, rfl, rfl, hw1⟩ := ChangeShapes.open_int Try.underlying3 (hval' 1 3 v1 rfl rfl) h1
    exact counts_calls f0 g0 a0 sv0 l0 a1 W hl0

theorem aesCountsOver : Rows.aesCountsRow.holds Try.pinned (OpenSpec.ofChange Rows.aesCountsSpec) :=
  OpenClaim.holds_of_wide 8 Try.f8 rfl rfl rfl rfl rfl rfl rfl ⟨rfl, rfl, rfl, rfl, rfl⟩ rfl rfl rfl rfl rfl (by kernel_rfl) Try.func8 (by kernel_rfl)
    (of_decide_eq_true (by kernel_rfl)) (by unfold Func.isWrapper; first | (rw [if_pos (by decide +kernel)]; kernel_rfl) | (rw [if_neg (by decide +kernel)]; exact ⟨rfl, rfl⟩))
    (fun os started H enc _ => aesCountsLifted os started H enc)

/-- The statement. -/
theorem aesCounts_holds : Rows.AesCountsSaid := aesCountsOver

#print axioms aesCounts_holds

end Go.Proofs.Ytjbohfonjalfnaa
