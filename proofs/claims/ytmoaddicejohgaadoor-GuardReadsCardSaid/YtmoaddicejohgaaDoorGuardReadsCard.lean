/- Proves Rows.GuardReadsCardSaid: the tied card of the row. No conditions. -/
import Derived.Test.YtmoaddicejohgaaDoorGuardReads
import Derived.Test.YtmoaddicejohgaaDoorCards
import Derived.Test.YtmoaddicejohgaaDoorTie
import Derived.SevenTiedAt
set_option linter.unusedSimpArgs false
set_option linter.unusedVariables false
set_option maxRecDepth 100000
set_option maxHeartbeats 4000000
namespace Go.Proofs.YtmoaddicejohgaaDoor
open Go
open List (getD_cons_zero getD_cons_succ set_cons_zero set_cons_succ)

/-- The statement. -/
theorem guardReadsCard_holds : Rows.GuardReadsCardSaid :=
  Claim7.holds_tied_plain_at .later [] [.data, .data] true (true, "b45bd5553fe966b81b69c4ca1b599b99ea55aad53f0ecc1504cc158a93d9c7db") false
    guardReads_row (fun _ h => by cases h) (by kernel_rfl) (fun _ h => by cases h) guardReads_row_tie rfl ⟨rfl, rfl⟩ (by kernel_rfl) rfl
    (fun f fn hf hfn => by
      obtain rfl : f = 5 := Option.some.inj ((show Tryd.prog.funcNamed "rhyne/rhynelaw10.GuardReads" = some 5 by kernel_rfl).symm.trans hf) |>.symm
      obtain rfl : fn = Tryd.f5 := (Option.some.inj (Tryd.func5.symm.trans hfn)).symm
      exact ⟨by kernel_rfl, fun j t ht => by
        rw [Tryd.params5] at ht
        match j, ht with
        | 0, ht => cases ht; exact (show Tryd.prog.wantsStandIn 41 = false by kernel_rfl)
        | j + 1, ht => simp at ht⟩)
    (by kernel_rfl)
#print axioms guardReadsCard_holds

end Go.Proofs.YtmoaddicejohgaaDoor
