/- Proves Rows.GcmHidesSaid: for every input the law returns true, and what was handed in reads as it read before. No conditions. -/
import Derived.Test.YtjbohfonjalfnaaGcmH
import Derived.Test.YtjbohfonjalfnaaWide
import Derived.Test.YtjbohfonjalfnaaRows
set_option linter.unusedSimpArgs false
set_option linter.unusedVariables false
set_option maxRecDepth 100000
set_option maxHeartbeats 4000000
namespace Go.Proofs.Ytjbohfonjalfnaa
open Go
open List (getD_cons_zero getD_cons_succ set_cons_zero set_cons_succ)
open Nat (zero_add add_zero mul_one zero_mul)

theorem gcmHidesLifted (os : Os) (started : os.Started) (H : Type) (enc : TypeId × Value → H) :
    ReturnsInHanded {} Try.checked os 9 .any (Rows.gcmHidesSpec.pre6 enc Try.prog Try.f9 Rows.gcmHidesRow.domain false) (Rows.gcmHidesSpec.post enc Try.prog Try.f9 false true false false) := by
  refine law_lifted_w (C := Try.checked) (by kernel_rfl) started (by kernel_rfl) Try.func9
    (ChangeSpec.witness6 (enc := enc) (C := Try.checked) false ⟨#[], #[.agg (letterC (fun _ => 0) (.slice none 0 0) (.slice none 0 0) (.slice none 0 0)), .slice none 0 0], []⟩ 8 (by kernel_rfl) (by kernel_rfl) (by kernel_rfl) (by kernel_rfl)) (by kernel_rfl) (by kernel_rfl) (by kernel_rfl) Try.underlying4 rfl
    (fun ds hds => ?_) ?_
  · rw [Try.params9] at hds
    match ds, hds with
    | [d0, d1], _ => rfl
  · intro W base args ds p hval hA hwt
    have hval' : ∀ (j : Nat) t v, Try.f9.params[j]? = some t → args[j]? = some v → Value.okWide Try.prog W .any base t v := hval
    replace hA : DataW.TrodAll enc Try.prog W 0 (fun _ => true) true Try.f9.params.toList args.toList ds p := hA
    rw [Try.params9] at hA hval' hwt
    obtain ⟨v0, vs0, d0, ds0, p0, q0, hargs, rfl, rfl, h0, r0⟩ := ChangeShapes.trodAll_cons hA
    obtain ⟨v1, vs1, d1, ds1, p1, q1, rfl, rfl, rfl, h1, r1⟩ := ChangeShapes.trodAll_cons r0
    obtain ⟨rfl, rfl, rfl⟩ := ChangeShapes.trodAll_nil r1
    obtain rfl : args = #[v0, v1] := by cases args; simp_all
    obtain ⟨f0, nv0, nl0, sv0, sl0, bv0, bl0, rfl, hn0, hnl0, hs0, hsl0, hb0, hbl0⟩ := open_letter Try.underlying48 rfl rfl rfl rfl Try.underlying22 Try.underlying5 sz5 (by kernel_rfl) sz22 Try.underlying27 sz27 sz48 (hval' 0 48 v0 rfl rfl) h0 (hwt 0 48 d0 rfl rfl)
    obtain ⟨l1, hl1, hn1⟩ := open_sl Try.underlying27 Try.underlying5 sz5 (hval' 1 27 v1 rfl rfl) h1
    exact gcmhides_calls f0 nv0 sv0 bv0 nl0 sl0 bl0 v1 l1 W hn0 hs0 hb0 hnl0 hl1

theorem gcmHidesOver : Rows.gcmHidesRow.holds Try.pinned (OpenSpec.ofChange Rows.gcmHidesSpec) :=
  OpenClaim.holds_of_wide 9 Try.f9 rfl rfl rfl rfl rfl rfl rfl ⟨rfl, rfl, rfl, rfl, rfl⟩ rfl rfl rfl rfl rfl (by kernel_rfl) Try.func9 (by kernel_rfl)
    (of_decide_eq_true (by kernel_rfl)) (by unfold Func.isWrapper; first | (rw [if_pos (by decide +kernel)]; kernel_rfl) | (rw [if_neg (by decide +kernel)]; exact ⟨rfl, rfl⟩))
    (fun os started H enc _ => gcmHidesLifted os started H enc)

/-- The statement. -/
theorem gcmHides_holds : Rows.GcmHidesSaid := gcmHidesOver

#print axioms gcmHides_holds

end Go.Proofs.Ytjbohfonjalfnaa
