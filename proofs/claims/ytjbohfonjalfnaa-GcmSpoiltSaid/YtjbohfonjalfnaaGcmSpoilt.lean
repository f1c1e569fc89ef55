/- Proves Rows.GcmSpoiltSaid: for every input the law returns true, and what was handed in reads as it read before. No conditions. -/
import Derived.Test.YtjbohfonjalfnaaGcmU
import Derived.Test.YtjbohfonjalfnaaOpen
import Derived.Test.YtjbohfonjalfnaaRows
set_option linter.unusedSimpArgs false
set_option linter.unusedVariables false
set_option maxRecDepth 100000
set_option maxHeartbeats 4000000
namespace Go.Proofs.Ytjbohfonjalfnaa
open Go
open List (getD_cons_zero getD_cons_succ set_cons_zero set_cons_succ)
open Nat (zero_add add_zero mul_one zero_mul)

theorem gcmSpoiltLifted (os : Os) (started : os.Started) (H : Type) (enc : TypeId × Value → H) :
    ReturnsInHanded {} Try.checked os 13 .any (Rows.gcmSpoiltSpec.pre6 enc Try.prog Try.f13 Rows.gcmSpoiltRow.domain false) (Rows.gcmSpoiltSpec.post enc Try.prog Try.f13 false true false false) := by
  refine law_lifted_w (C := Try.checked) (by kernel_rfl) started (by kernel_rfl) Try.func13
    (ChangeSpec.witness6 (enc := enc) (C := Try.checked) false ⟨#[], #[.agg (letterC (fun _ => 0) (.slice none 0 0) (.slice none 0 0) (.slice none 0 0)), I64 0, V8 0], []⟩ 8 (by kernel_rfl) (by kernel_rfl) (by kernel_rfl) (by kernel_rfl)) (by kernel_rfl) (by kernel_rfl) (by kernel_rfl) Try.underlying4 rfl
    (fun ds hds => ?_) ?_
  · rw [Try.params13] at hds
    match ds, hds with
    | [d0, d1, d2], _ => rfl
  · intro W base args ds p hval hA hwt
    have hval' : ∀ (j : Nat) t v, Try.f13.params[j]? = some t → args[j]? = some v → Value.okWide Try.prog W .any base t v := hval
    replace hA : DataW.TrodAll enc Try.prog W 0 (fun _ => true) true Try.f13.params.toList args.toList ds p := hA
    rw [Try.params13] at hA hval' hwt
    obtain ⟨v0, vs0, d0, ds0, p0, q0, hargs, rfl, rfl, h0, r0⟩ := ChangeShapes.trodAll_cons hA
    obtain ⟨v1, vs1, d1, ds1, p1, q1, rfl, rfl, rfl, h1, r1⟩ := ChangeShapes.trodAll_cons r0
    obtain ⟨v2, vs2, d2, ds2, p2, q2, rfl, rfl, rfl, h2, r2⟩ := ChangeShapes.trodAll_cons r1
    obtain ⟨rfl, rfl, rfl⟩ := ChangeShapes.trodAll_nil r2
    obtain rfl : args = #[v0, v1, v2] := by cases args; simp_all
    obtain ⟨f0, nv0, nl0, sv0, sl0, bv0, bl0, rfl, hn0, hnl0, hs0, hsl0, hb0, hbl0⟩ := open_letter Try.underlying48 rfl rfl rfl rfl Try.underlying22 Try.underlying5 sz5 (by kernel_rfl) sz22 Try.underlying27 sz27 sz48 (hval' 0 48 v0 rfl rfl) h0 (hwt 0 48 d0 rfl rfl)
    obtain ⟨a1, rfl, rfl, rfl, hw1⟩ := ChangeShapes.open_int Try.underlying3 (hval' 1 3 v1 rfl rfl) h1
    obtain ⟨a2, rfl⟩ := open_u8 Try.underlying5 (hval' 2 5 v2 rfl rfl) h2
    exact gcmspoilt_calls f0 nv0 sv0 bv0 nl0 sl0 bl0 a1 a2 W hn0 hs0 hb0 hnl0

theorem gcmSpoiltOver : Rows.gcmSpoiltRow.holds Try.pinned (OpenSpec.ofChange Rows.gcmSpoiltSpec) :=
  OpenClaim.holds_of_wide 13 Try.f13 rfl rfl rfl rfl rfl rfl rfl ⟨rfl, rfl, rfl, rfl, rfl⟩ rfl rfl rfl rfl rfl (by kernel_rfl) Try.func13 (by kernel_rfl)
    (of_decide_eq_true (by kernel_rfl)) (by unfold Func.isWrapper; first | (rw [if_pos (by decide +kernel)]; kernel_rfl) | (rw [if_neg (by decide +kernel)]; exact ⟨rfl, rfl⟩))
    (fun os started H enc _ => gcmSpoiltLifted os started H enc)

/-- The statement. -/
theorem gcmSpoilt_holds : Rows.GcmSpoiltSaid := gcmSpoiltOver

#print axioms gcmSpoilt_holds

end Go.Proofs.Ytjbohfonjalfnaa
