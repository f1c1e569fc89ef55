/-
  DERIVED. GIVEN WITH THE SEED: THE CARDS: each row of YtdkjdioccpoacaaDoorRows.lean that lists a variable, with what it lists TIED to the program's text (the seventh form; the later family's looks); each row that meets fmt, with fmt's text TOLD by the authors' own Lean function (tested against real Go, not proved from fmt's source: count such statements apart). THE CARD IS WHAT COUNTS. Prove the row's statement (the work); the ties are given (YtdkjdioccpoacaaDoorTie.lean); close each card by the builder's one call (the guide's Derived/Test/ToyasCard.lean, 'card_holds'). Laid BY PROGRAM, IN A SANDBOX (cutbox-door.mjs). By AI agents, Wed Nov 11 2026. No macro, syntax, notation, axiom, sorry.
-/
import Derived.Test.YtdkjdioccpoacaaDoorRows
import GoSem.ClaimSeven
namespace Go.Proofs.YtdkjdioccpoacaaDoor
namespace Rows

/-- THE TIED CARD OF 'rhynetop.RhyneSecrets'. -/
def rhyneSecretsCard : Claim7 := { stood := { row := rhyneSecretsRow, standIns := [], harness := (true, "9092e56ae9e184c7d196a3731827767671eb38dfd008fdf2f1584c1d2b08caaf"), looks := false }, kinds := [], alts := [], laidByText := true, laidKinds := [.data, .data, .data, .data], laidTests := true, laidLooks := .later }
def RhyneSecretsCardSaid : Prop := Claim7.holds Tryd.pinned (.plain (OpenSpec.ofChange rhyneSecretsSpec)) rhyneSecretsCard

/-- THE TIED CARD OF 'rhynetop.RhyneParcels'. -/
def rhyneParcelsCard : Claim7 := { stood := { row := rhyneParcelsRow, standIns := [], harness := (true, "9092e56ae9e184c7d196a3731827767671eb38dfd008fdf2f1584c1d2b08caaf"), looks := false }, kinds := [], alts := [], laidByText := true, laidKinds := [.data, .data, .data, .data], laidTests := true, laidLooks := .later }
def RhyneParcelsCardSaid : Prop := Claim7.holds Tryd.pinned (.plain (OpenSpec.ofChange rhyneParcelsSpec)) rhyneParcelsCard

/-- THE SECOND FORM's CARD OF 'rhynetop.RhyneSecrets'. -/
def rhyneSecretsUptoCard : Claim7 := { stood := { row := rhyneSecretsUptoRow, standIns := [], harness := (true, "9092e56ae9e184c7d196a3731827767671eb38dfd008fdf2f1584c1d2b08caaf"), looks := false }, kinds := [], alts := [], laidByText := true, laidKinds := [.data, .data, .data, .data], laidTests := true, laidLooks := .later }
def RhyneSecretsUptoCardSaid : Prop := Claim7.holds Tryd.pinned (.plain (OpenSpec.upto rhyneSecretsSpec)) rhyneSecretsUptoCard

/-- THE SECOND FORM's CARD OF 'rhynetop.RhyneParcels'. -/
def rhyneParcelsUptoCard : Claim7 := { stood := { row := rhyneParcelsUptoRow, standIns := [], harness := (true, "9092e56ae9e184c7d196a3731827767671eb38dfd008fdf2f1584c1d2b08caaf"), looks := false }, kinds := [], alts := [], laidByText := true, laidKinds := [.data, .data, .data, .data], laidTests := true, laidLooks := .later }
def RhyneParcelsUptoCardSaid : Prop := Claim7.holds Tryd.pinned (.plain (OpenSpec.upto rhyneParcelsSpec)) rhyneParcelsUptoCard
end Rows
end Go.Proofs.YtdkjdioccpoacaaDoor
