/-
  DERIVED. GIVEN WITH THE SEED: THE CARDS: each row of YtmoaddicejohgaaDoorRows.lean that lists a variable, with what it lists TIED to the program's text (the seventh form; the later family's looks); each row that meets fmt, with fmt's text TOLD by the authors' own Lean function (tested against real Go, not proved from fmt's source: count such statements apart). THE CARD IS WHAT COUNTS. Prove the row's statement (the work); the ties are given (YtmoaddicejohgaaDoorTie.lean); close each card by the builder's one call (the guide's Derived/Test/ToyasCard.lean, 'card_holds'). Laid BY PROGRAM, IN A SANDBOX (cutbox-door.mjs). By AI agents, Wed Nov 11 2026. No macro, syntax, notation, axiom, sorry.
-/
import Derived.Test.YtmoaddicejohgaaDoorRows
import GoSem.ClaimSeven
namespace Go.Proofs.YtmoaddicejohgaaDoor
namespace Rows

/-- THE TIED CARD OF 'rhynelaw10.GuardRetries'. -/
def guardRetriesCard : Claim7 := { stood := { row := guardRetriesRow, standIns := [], harness := (true, "b45bd5553fe966b81b69c4ca1b599b99ea55aad53f0ecc1504cc158a93d9c7db"), looks := false }, kinds := [], alts := [], laidByText := true, laidKinds := [.data, .data], laidTests := true, laidLooks := .later }
def GuardRetriesCardSaid : Prop := Claim7.holds Tryd.pinned (.plain (OpenSpec.ofChange guardRetriesSpec)) guardRetriesCard

/-- THE TIED CARD OF 'rhynelaw10.GuardSeals'. -/
def guardSealsCard : Claim7 := { stood := { row := guardSealsRow, standIns := [], harness := (true, "b45bd5553fe966b81b69c4ca1b599b99ea55aad53f0ecc1504cc158a93d9c7db"), looks := false }, kinds := [], alts := [], laidByText := true, laidKinds := [.data, .data], laidTests := true, laidLooks := .later }
def GuardSealsCardSaid : Prop := Claim7.holds Tryd.pinned (.plain (OpenSpec.ofChange guardSealsSpec)) guardSealsCard

/-- THE TIED CARD OF 'rhynelaw10.GuardReads'. -/
def guardReadsCard : Claim7 := { stood := { row := guardReadsRow, standIns := [], harness := (true, "b45bd5553fe966b81b69c4ca1b599b99ea55aad53f0ecc1504cc158a93d9c7db"), looks := false }, kinds := [], alts := [], laidByText := true, laidKinds := [.data, .data], laidTests := true, laidLooks := .later }
def GuardReadsCardSaid : Prop := Claim7.holds Tryd.pinned (.plain (OpenSpec.ofChange guardReadsSpec)) guardReadsCard

/-- THE TIED CARD OF 'rhynelaw10.GuardBacks'. -/
def guardBacksCard : Claim7 := { stood := { row := guardBacksRow, standIns := [], harness := (true, "b45bd5553fe966b81b69c4ca1b599b99ea55aad53f0ecc1504cc158a93d9c7db"), looks := false }, kinds := [], alts := [], laidByText := true, laidKinds := [.data, .data], laidTests := true, laidLooks := .later }
def GuardBacksCardSaid : Prop := Claim7.holds Tryd.pinned (.plain (OpenSpec.ofChange guardBacksSpec)) guardBacksCard

/-- THE TIED CARD OF 'rhynelaw10.GuardApart'. -/
def guardApartCard : Claim7 := { stood := { row := guardApartRow, standIns := [], harness := (true, "b45bd5553fe966b81b69c4ca1b599b99ea55aad53f0ecc1504cc158a93d9c7db"), looks := false }, kinds := [], alts := [], laidByText := true, laidKinds := [.data, .data], laidTests := true, laidLooks := .later }
def GuardApartCardSaid : Prop := Claim7.holds Tryd.pinned (.plain (OpenSpec.ofChange guardApartSpec)) guardApartCard

/-- THE SECOND FORM's CARD OF 'rhynelaw10.GuardRetries'. -/
def guardRetriesUptoCard : Claim7 := { stood := { row := guardRetriesUptoRow, standIns := [], harness := (true, "b45bd5553fe966b81b69c4ca1b599b99ea55aad53f0ecc1504cc158a93d9c7db"), looks := false }, kinds := [], alts := [], laidByText := true, laidKinds := [.data, .data], laidTests := true, laidLooks := .later }
def GuardRetriesUptoCardSaid : Prop := Claim7.holds Tryd.pinned (.plain (OpenSpec.upto guardRetriesSpec)) guardRetriesUptoCard

/-- THE SECOND FORM's CARD OF 'rhynelaw10.GuardSeals'. -/
def guardSealsUptoCard : Claim7 := { stood := { row := guardSealsUptoRow, standIns := [], harness := (true, "b45bd5553fe966b81b69c4ca1b599b99ea55aad53f0ecc1504cc158a93d9c7db"), looks := false }, kinds := [], alts := [], laidByText := true, laidKinds := [.data, .data], laidTests := true, laidLooks := .later }
def GuardSealsUptoCardSaid : Prop := Claim7.holds Tryd.pinned (.plain (OpenSpec.upto guardSealsSpec)) guardSealsUptoCard

/-- THE SECOND FORM's CARD OF 'rhynelaw10.GuardReads'. -/
def guardReadsUptoCard : Claim7 := { stood := { row := guardReadsUptoRow, standIns := [], harness := (true, "b45bd5553fe966b81b69c4ca1b599b99ea55aad53f0ecc1504cc158a93d9c7db"), looks := false }, kinds := [], alts := [], laidByText := true, laidKinds := [.data, .data], laidTests := true, laidLooks := .later }
def GuardReadsUptoCardSaid : Prop := Claim7.holds Tryd.pinned (.plain (OpenSpec.upto guardReadsSpec)) guardReadsUptoCard

/-- THE SECOND FORM's CARD OF 'rhynelaw10.GuardBacks'. -/
def guardBacksUptoCard : Claim7 := { stood := { row := guardBacksUptoRow, standIns := [], harness := (true, "b45bd5553fe966b81b69c4ca1b599b99ea55aad53f0ecc1504cc158a93d9c7db"), looks := false }, kinds := [], alts := [], laidByText := true, laidKinds := [.data, .data], laidTests := true, laidLooks := .later }
def GuardBacksUptoCardSaid : Prop := Claim7.holds Tryd.pinned (.plain (OpenSpec.upto guardBacksSpec)) guardBacksUptoCard

/-- THE SECOND FORM's CARD OF 'rhynelaw10.GuardApart'. -/
def guardApartUptoCard : Claim7 := { stood := { row := guardApartUptoRow, standIns := [], harness := (true, "b45bd5553fe966b81b69c4ca1b599b99ea55aad53f0ecc1504cc158a93d9c7db"), looks := false }, kinds := [], alts := [], laidByText := true, laidKinds := [.data, .data], laidTests := true, laidLooks := .later }
def GuardApartUptoCardSaid : Prop := Claim7.holds Tryd.pinned (.plain (OpenSpec.upto guardApartSpec)) guardApartUptoCard
end Rows
end Go.Proofs.YtmoaddicejohgaaDoor
