/- Proves Rows.GcmTimesSaid: for every input the law returns true, and what was handed in reads as it read before. No conditions. -/
import Derived.Test.YtjbohfonjalfnaaGcmL
import Derived.Test.YtjbohfonjalfnaaFrame
import Derived.Test.YtjbohfonjalfnaaRows
set_option linter.unusedSimpArgs false
set_option linter.unusedVariables false
set_option maxRecDepth 100000
set_option maxHeartbeats 4000000
namespace Go.Proofs.Ytjbohfonjalfnaa
open Go

theorem gcmTimesLifted (os : Os) (started : os.Started) (H : Type) (enc : TypeId × Value → H) :
    ReturnsInHanded {} Try.checked os 10 .any (Rows.gcmTimesSpec.pre6 enc Try.prog Try.f10 Rows.gcmTimesRow.domain false) (Rows.gcmTimesSpec.post enc Try.prog Try.f10 false true false false) := by
  refine law_lifted (C := Try.checked) (by kernel_rfl) started (by kernel_rfl) Try.func10
    (ChangeSpec.witness6 (enc := enc) (C := Try.checked) false ⟨#[], #[.agg (arr8 16 fun _ => 0), .agg (arr8 16 fun _ => 0), .agg (arr8 16 fun _ => 0)], []⟩ 8 (by kernel_rfl) (by kernel_rfl) (by kernel_rfl) (by kernel_rfl)) (by kernel_rfl) (by kernel_rfl) (by kernel_rfl) Try.underlying4 rfl
    (fun ds hds => ?_) ?_
  · rw [Try.params10] at hds
    match ds, hds with
    | [d0, d1, d2], _ => rfl
  · intro W base args ds p hval hA
    have hval' : ∀ (j : Nat) t v, Try.f10.params[j]? = some t → args[j]? = some v → Value.okWide Try.prog W .any base t v := hval
    replace hA : DataW.TrodAll enc Try.prog W 0 (fun _ => true) true Try.f10.params.toList args.toList ds p := hA
    rw [Try.params10] at hA hval'
    obtain ⟨v0, vs0, d0, ds0, p0, q0, hargs, rfl, rfl, h0, r0⟩ := ChangeShapes.trodAll_cons hA
    obtain ⟨v1, vs1, d1, ds1, p1, q1, rfl, rfl, rfl, h1, r1⟩ := ChangeShapes.trodAll_cons r0
    obtain ⟨v2, vs2, d2, ds2, p2, q2, rfl, rfl, rfl, h2, r2⟩ := ChangeShapes.trodAll_cons r1
    obtain ⟨rfl, rfl, rfl⟩ := ChangeShapes.trodAll_nil r2
    obtain rfl : args = #[v0, v1, v2] := by cases args; simp_all
    obtain ⟨a0, rfl⟩ := open_arr8 Try.underlying22 Try.underlying5 sz5 sz22 (hval' 0 22 v0 rfl rfl) h0
    obtain ⟨a1, rfl⟩ := open_arr8 Try.underlying22 Try.underlying5 sz5 sz22 (hval' 1 22 v1 rfl rfl) h1
    obtain ⟨a2, rfl⟩ := open_arr8 Try.underlying22 Try.underlying5 sz5 sz22 (hval' 2 22 v2 rfl rfl) h2
    exact gcmtimes_calls a0 a1 a2 W

theorem gcmTimesOver : Rows.gcmTimesRow.holds Try.pinned (OpenSpec.ofChange Rows.gcmTimesSpec) :=
  OpenClaim.holds_of_wide 10 Try.f10 rfl rfl rfl rfl rfl rfl rfl ⟨rfl, rfl, rfl, rfl, rfl⟩ rfl rfl rfl rfl rfl (by kernel_rfl) Try.func10 (by kernel_rfl)
    (of_decide_eq_true (by kernel_rfl)) (by unfold Func.isWrapper; first | (rw [if_pos (by decide +kernel)]; kernel_rfl) | (rw [if_neg (by decide +kernel)]; exact ⟨rfl, rfl⟩))
    (fun os started H enc _ => gcmTimesLifted os started H enc)

/-- The statement. -/
theorem gcmTimes_holds : Rows.GcmTimesSaid := gcmTimesOver

#print axioms gcmTimes_holds

end Go.Proofs.Ytjbohfonjalfnaa
