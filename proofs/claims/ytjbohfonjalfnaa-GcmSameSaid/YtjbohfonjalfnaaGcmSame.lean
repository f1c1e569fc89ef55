/- Proves Rows.GcmSameSaid: for every input the law returns true, and what was handed in reads as it read before. No conditions. -/
import Derived.Test.YtjbohfonjalfnaaGcmN
import Derived.Test.YtjbohfonjalfnaaFrame
import Derived.Test.YtjbohfonjalfnaaRows
set_option linter.unusedSimpArgs false
set_option linter.unusedVariables false
set_option maxRecDepth 100000
set_option maxHeartbeats 4000000
namespace Go.Proofs.Ytjbohfonjalfnaa
open Go
open List (getD_cons_zero getD_cons_succ set_cons_zero set_cons_succ)
open Nat (zero_add add_zero mul_one zero_mul)

theorem gcmSameLifted (os : Os) (started : os.Started) (H : Type) (enc : TypeId × Value → H) :
    ReturnsInHanded {} Try.checked os 14 .any (Rows.gcmSameSpec.pre6 enc Try.prog Try.f14 Rows.gcmSameRow.domain false) (Rows.gcmSameSpec.post enc Try.prog Try.f14 false true false false) := by
  refine law_lifted (C := Try.checked) (by kernel_rfl) started (by kernel_rfl) Try.func14
    (ChangeSpec.witness6 (enc := enc) (C := Try.checked) false ⟨#[], #[.slice none 0 0, .slice none 0 0], []⟩ 8 (by kernel_rfl) (by kernel_rfl) (by kernel_rfl) (by kernel_rfl)) (by kernel_rfl) (by kernel_rfl) (by kernel_rfl) Try.underlying4 rfl
    (fun ds hds => ?_) ?_
  · rw [Try.params14] at hds
    match ds, hds with
    | [d0, d1], _ => rfl
  · intro W base args ds p hval hA
    have hval' : ∀ (j : Nat) t v, Try.f14.params[j]? = some t → args[j]? = some v → Value.okWide Try.prog W .any base t v := hval
    replace hA : DataW.TrodAll enc Try.prog W 0 (fun _ => true) true Try.f14.params.toList args.toList ds p := hA
    rw [Try.params14] at hA hval'
    obtain ⟨v0, vs0, d0, ds0, p0, q0, hargs, rfl, rfl, h0, r0⟩ := ChangeShapes.trodAll_cons hA
    obtain ⟨v1, vs1, d1, ds1, p1, q1, rfl, rfl, rfl, h1, r1⟩ := ChangeShapes.trodAll_cons r0
    obtain ⟨rfl, rfl, rfl⟩ := ChangeShapes.trodAll_nil r1
    obtain rfl : args = #[v0, v1] := by cases args; simp_all
    obtain ⟨l0, hl0, hn0⟩ := open_sl Try.underlying27 Try.underlying5 sz5 (hval' 0 27 v0 rfl rfl) h0
    obtain ⟨l1, hl1, hn1⟩ := open_sl Try.underlying27 Try.underlying5 sz5 (hval' 1 27 v1 rfl rfl) h1
    exact gcmsame_calls v0 v1 l0 l1 W hl0 hl1 hn0 hn1

theorem gcmSameOver : Rows.gcmSameRow.holds Try.pinned (OpenSpec.ofChange Rows.gcmSameSpec) :=
  OpenClaim.holds_of_wide 14 Try.f14 rfl rfl rfl rfl rfl rfl rfl ⟨rfl, rfl, rfl, rfl, rfl⟩ rfl rfl rfl rfl rfl (by kernel_rfl) Try.func14 (by kernel_rfl)
    (of_decide_eq_true (by kernel_rfl)) (by unfold Func.isWrapper; first | (rw [if_pos (by decide +kernel)]; kernel_rfl) | (rw [if_neg (by decide +kernel)]; exact ⟨rfl, rfl⟩))
    (fun os started H enc _ => gcmSameLifted os started H enc)

/-- The statement. -/
theorem gcmSame_holds : Rows.GcmSameSaid := gcmSameOver

#print axioms gcmSame_holds

end Go.Proofs.Ytjbohfonjalfnaa
