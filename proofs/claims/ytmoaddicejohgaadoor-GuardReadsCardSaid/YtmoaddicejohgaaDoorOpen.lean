/- Arguments opened: a byte. -/
import Derived.Test.YtmoaddicejohgaaDoorWide
set_option linter.unusedSimpArgs false
set_option linter.unusedVariables false
namespace Go.Proofs.YtmoaddicejohgaaDoor
open Go Go.ChangeShapes Go.WideShapes Go.RowKit
theorem open_u8 {H : Type} {enc : TypeId × Value → H} {P : Program} {w : World} {base : Nat} {spare : Nat → Bool} {held : Bool} {t : TypeId} {r : Reach} {b0 : Nat} {v : Value} {d : DataW H} {ps : List MemPlace} (hu : P.underlying t = some (.int .u8)) (hval : Value.okWide P w r b0 t v) (h : DataW.Trod enc P w base spare held t v d ps) : ∃ b : UInt8, v = V8 b := by
  obtain ⟨n, rfl, rfl, rfl, hw⟩ := ChangeShapes.open_int hu hval h
  have := bounds_u8 hw
  refine ⟨UInt8.ofNat n.toNat, ?_⟩
  have e1 : ((UInt8.ofNat n.toNat).toNat : Int) = n := by
    rw [UInt8.toNat_ofNat']; omega
  rw [show V8 (UInt8.ofNat n.toNat) = .int .u8 ((UInt8.ofNat n.toNat).toNat : Int) from rfl, e1]
end Go.Proofs.YtmoaddicejohgaaDoor
