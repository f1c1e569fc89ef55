/-
  DERIVED. GIVEN WITH THE SEED: THE CARDS: each row of YtomjbepgbnbgmaaDoorRows.lean that lists a variable, with what it lists TIED to the program's text (the seventh form; the later family's looks); each row that meets fmt, with fmt's text TOLD by the authors' own Lean function (tested against real Go, not proved from fmt's source: count such statements apart). THE CARD IS WHAT COUNTS. Prove the row's statement (the work); the ties are given (YtomjbepgbnbgmaaDoorTie.lean); close each card by the builder's one call (the guide's Derived/Test/ToyasCard.lean, 'card_holds'). Laid BY PROGRAM, IN A SANDBOX (cutbox-door.mjs). By AI agents, Wed Nov 11 2026. No macro, syntax, notation, axiom, sorry.
-/
import Derived.Test.YtomjbepgbnbgmaaDoorRows
import GoSem.ClaimSeven
namespace Go.Proofs.YtomjbepgbnbgmaaDoor
namespace Rows

/-- THE TIED CARD OF 'rhynelaw15.ShakeWords'. -/
def shakeWordsCard : Claim7 := { stood := { row := shakeWordsRow, standIns := [], harness := (true, "bb73425516c348210e61c1eb4af78778f11ddcfcddf4574f2c8c29e3da0b66c6"), looks := false }, kinds := [], alts := [], laidByText := true, laidKinds := [.data, .data, .data, .data], laidTests := true, laidLooks := .later }
def ShakeWordsCardSaid : Prop := Claim7.holds Tryd.pinned (.plain (OpenSpec.ofChange shakeWordsSpec)) shakeWordsCard

/-- THE TIED CARD OF 'rhynelaw15.ShakeAgrees'. -/
def shakeAgreesCard : Claim7 := { stood := { row := shakeAgreesRow, standIns := [], harness := (true, "bb73425516c348210e61c1eb4af78778f11ddcfcddf4574f2c8c29e3da0b66c6"), looks := false }, kinds := [], alts := [], laidByText := true, laidKinds := [.data, .data, .data, .data], laidTests := true, laidLooks := .later }
def ShakeAgreesCardSaid : Prop := Claim7.holds Tryd.pinned (.plain (OpenSpec.ofChange shakeAgreesSpec)) shakeAgreesCard

/-- THE SECOND FORM's CARD OF 'rhynelaw15.ShakeWords'. -/
def shakeWordsUptoCard : Claim7 := { stood := { row := shakeWordsUptoRow, standIns := [], harness := (true, "bb73425516c348210e61c1eb4af78778f11ddcfcddf4574f2c8c29e3da0b66c6"), looks := false }, kinds := [], alts := [], laidByText := true, laidKinds := [.data, .data, .data, .data], laidTests := true, laidLooks := .later }
def ShakeWordsUptoCardSaid : Prop := Claim7.holds Tryd.pinned (.plain (OpenSpec.upto shakeWordsSpec)) shakeWordsUptoCard

/-- THE SECOND FORM's CARD OF 'rhynelaw15.ShakeAgrees'. -/
def shakeAgreesUptoCard : Claim7 := { stood := { row := shakeAgreesUptoRow, standIns := [], harness := (true, "bb73425516c348210e61c1eb4af78778f11ddcfcddf4574f2c8c29e3da0b66c6"), looks := false }, kinds := [], alts := [], laidByText := true, laidKinds := [.data, .data, .data, .data], laidTests := true, laidLooks := .later }
def ShakeAgreesUptoCardSaid : Prop := Claim7.holds Tryd.pinned (.plain (OpenSpec.upto shakeAgreesSpec)) shakeAgreesUptoCard
end Rows
end Go.Proofs.YtomjbepgbnbgmaaDoor
