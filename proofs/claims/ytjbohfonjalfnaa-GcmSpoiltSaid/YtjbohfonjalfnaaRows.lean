/-
  No cell of these rows narrows 'for every input' (looked for: loops, veiled, ifaces, maps, wideKeys, modest, calm, conditions, laid).
  DERIVED. THE GIVEN ROWS OF THIS SEAT. 12 by the template 'for every input the law returns true; each argument reads behind the call as it read before'; 0 by the template 'total and deterministic' (their statements: YtjbohfonjalfnaaTotals.lean).
  GIVEN WITH THE SEED: the statements are not yours to turn. If you find one false, say at which input.
  Laid BY PROGRAM, IN A SANDBOX (cutbox-rows.mjs): the forced cells as the released guide's own fill.sh prints them over the translation 990826dad837697c… (all of the seat's roots in one cut). By AI agents, Wed Nov 11 2026. No macro, syntax, notation, axiom, sorry.
-/
import Derived.Test.YtjbohfonjalfnaaChecked
import GoSem.Claim
import GoSem.ClaimJoined
import GoSem.ClaimMapViews
import Derived.JoinedTies
import Derived.KernelRfl
namespace Go.Proofs.Ytjbohfonjalfnaa
/- THE CELL 'sum', in the pinned program and in every row, IS THE sha256 OF THE DUMP (.gsa) THAT YtjbohfonjalfnaaProg.lean LOADS. Nothing in Lean hashes anything: it is a label: what it is worth is what the hold of that sum in a sandbox is worth. -/
noncomputable def Try.pinned : Pinned := { name := "ytjbohfonjalfnaa", sum := "990826dad837697c2926cdd7383ba430783590f6825060d306ab6a84292b2ab2", checked := Try.checked }
namespace Rows
def none {H : Type} : Left H := { results := [], args := [] }

/-- 'rhynelaw03.AesBlock': WHATEVER THE INPUT: true; the input reads as it did. -/
def aesBlockSpec : ChangeSpec := { name := "aesBlock", fn := fun _ => fun
  | [d1, d2] => { results := [.lit (.bool true)], args := [d1, d2] }
  | _ => none }
def aesBlockRow : OpenClaim := { program := "ytjbohfonjalfnaa", sum := "990826dad837697c2926cdd7383ba430783590f6825060d306ab6a84292b2ab2", func := "rhyne/rhynelaw03.AesBlock", spec := "aesBlock", apart := false }
def AesBlockSaid : Prop := aesBlockRow.holds Try.pinned (OpenSpec.ofChange aesBlockSpec)

/-- ITS FALSE NEIGHBOUR: 'it returns false'. Refute it at one input. -/
def aesBlockWrong : ChangeSpec := { name := "aesBlock", fn := fun _ => fun
  | [d1, d2] => { results := [.lit (.bool false)], args := [d1, d2] }
  | _ => none }
def AesBlockWrongFalsely : Prop := aesBlockRow.holds Try.pinned (OpenSpec.ofChange aesBlockWrong)

/-- 'rhynelaw03.AesApart': WHATEVER THE INPUT: true; the input reads as it did. -/
def aesApartSpec : ChangeSpec := { name := "aesApart", fn := fun _ => fun
  | [d1, d2, d3] => { results := [.lit (.bool true)], args := [d1, d2, d3] }
  | _ => none }
def aesApartRow : OpenClaim := { program := "ytjbohfonjalfnaa", sum := "990826dad837697c2926cdd7383ba430783590f6825060d306ab6a84292b2ab2", func := "rhyne/rhynelaw03.AesApart", spec := "aesApart", apart := false }
def AesApartSaid : Prop := aesApartRow.holds Try.pinned (OpenSpec.ofChange aesApartSpec)

/-- ITS FALSE NEIGHBOUR: 'it returns false'. Refute it at one input. -/
def aesApartWrong : ChangeSpec := { name := "aesApart", fn := fun _ => fun
  | [d1, d2, d3] => { results := [.lit (.bool false)], args := [d1, d2, d3] }
  | _ => none }
def AesApartWrongFalsely : Prop := aesApartRow.holds Try.pinned (OpenSpec.ofChange aesApartWrong)

/-- 'rhynelaw03.AesSizes': WHATEVER THE INPUT: true; the input reads as it did. -/
def aesSizesSpec : ChangeSpec := { name := "aesSizes", fn := fun _ => fun
  | [d1, d2] => { results := [.lit (.bool true)], args := [d1, d2] }
  | _ => none }
def aesSizesRow : OpenClaim := { program := "ytjbohfonjalfnaa", sum := "990826dad837697c2926cdd7383ba430783590f6825060d306ab6a84292b2ab2", func := "rhyne/rhynelaw03.AesSizes", spec := "aesSizes", apart := false }
def AesSizesSaid : Prop := aesSizesRow.holds Try.pinned (OpenSpec.ofChange aesSizesSpec)

/-- ITS FALSE NEIGHBOUR: 'it returns false'. Refute it at one input. -/
def aesSizesWrong : ChangeSpec := { name := "aesSizes", fn := fun _ => fun
  | [d1, d2] => { results := [.lit (.bool false)], args := [d1, d2] }
  | _ => none }
def AesSizesWrongFalsely : Prop := aesSizesRow.holds Try.pinned (OpenSpec.ofChange aesSizesWrong)

/-- 'rhynelaw03.AesStream': WHATEVER THE INPUT: true; the input reads as it did. -/
def aesStreamSpec : ChangeSpec := { name := "aesStream", fn := fun _ => fun
  | [d] => { results := [.lit (.bool true)], args := [d] }
  | _ => none }
def aesStreamRow : OpenClaim := { program := "ytjbohfonjalfnaa", sum := "990826dad837697c2926cdd7383ba430783590f6825060d306ab6a84292b2ab2", func := "rhyne/rhynelaw03.AesStream", spec := "aesStream", apart := false }
def AesStreamSaid : Prop := aesStreamRow.holds Try.pinned (OpenSpec.ofChange aesStreamSpec)

/-- ITS FALSE NEIGHBOUR: 'it returns false'. Refute it at one input. -/
def aesStreamWrong : ChangeSpec := { name := "aesStream", fn := fun _ => fun
  | [d] => { results := [.lit (.bool false)], args := [d] }
  | _ => none }
def AesStreamWrongFalsely : Prop := aesStreamRow.holds Try.pinned (OpenSpec.ofChange aesStreamWrong)

/-- 'rhynelaw03.AesParts': WHATEVER THE INPUT: true; the input reads as it did. -/
def aesPartsSpec : ChangeSpec := { name := "aesParts", fn := fun _ => fun
  | [d1, d2] => { results := [.lit (.bool true)], args := [d1, d2] }
  | _ => none }
def aesPartsRow : OpenClaim := { program := "ytjbohfonjalfnaa", sum := "990826dad837697c2926cdd7383ba430783590f6825060d306ab6a84292b2ab2", func := "rhyne/rhynelaw03.AesParts", spec := "aesParts", apart := false }
def AesPartsSaid : Prop := aesPartsRow.holds Try.pinned (OpenSpec.ofChange aesPartsSpec)

/-- ITS FALSE NEIGHBOUR: 'it returns false'. Refute it at one input. -/
def aesPartsWrong : ChangeSpec := { name := "aesParts", fn := fun _ => fun
  | [d1, d2] => { results := [.lit (.bool false)], args := [d1, d2] }
  | _ => none }
def AesPartsWrongFalsely : Prop := aesPartsRow.holds Try.pinned (OpenSpec.ofChange aesPartsWrong)

/-- 'rhynelaw03.AesCounts': WHATEVER THE INPUT: true; the input reads as it did. -/
def aesCountsSpec : ChangeSpec := { name := "aesCounts", fn := fun _ => fun
  | [d1, d2] => { results := [.lit (.bool true)], args := [d1, d2] }
  | _ => none }
def aesCountsRow : OpenClaim := { program := "ytjbohfonjalfnaa", sum := "990826dad837697c2926cdd7383ba430783590f6825060d306ab6a84292b2ab2", func := "rhyne/rhynelaw03.AesCounts", spec := "aesCounts", apart := false }
def AesCountsSaid : Prop := aesCountsRow.holds Try.pinned (OpenSpec.ofChange aesCountsSpec)

/-- ITS FALSE NEIGHBOUR: 'it returns false'. Refute it at one input. -/
def aesCountsWrong : ChangeSpec := { name := "aesCounts", fn := fun _ => fun
  | [d1, d2] => { results := [.lit (.bool false)], args := [d1, d2] }
  | _ => none }
def AesCountsWrongFalsely : Prop := aesCountsRow.holds Try.pinned (OpenSpec.ofChange aesCountsWrong)

/-- 'rhynelaw04.GcmHides': WHATEVER THE INPUT: true; the input reads as it did. -/
def gcmHidesSpec : ChangeSpec := { name := "gcmHides", fn := fun _ => fun
  | [d1, d2] => { results := [.lit (.bool true)], args := [d1, d2] }
  | _ => none }
def gcmHidesRow : OpenClaim := { program := "ytjbohfonjalfnaa", sum := "990826dad837697c2926cdd7383ba430783590f6825060d306ab6a84292b2ab2", func := "rhyne/rhynelaw04.GcmHides", spec := "gcmHides", apart := false }
def GcmHidesSaid : Prop := gcmHidesRow.holds Try.pinned (OpenSpec.ofChange gcmHidesSpec)

/-- ITS FALSE NEIGHBOUR: 'it returns false'. Refute it at one input. -/
def gcmHidesWrong : ChangeSpec := { name := "gcmHides", fn := fun _ => fun
  | [d1, d2] => { results := [.lit (.bool false)], args := [d1, d2] }
  | _ => none }
def GcmHidesWrongFalsely : Prop := gcmHidesRow.holds Try.pinned (OpenSpec.ofChange gcmHidesWrong)

/-- 'rhynelaw04.GcmTimes': WHATEVER THE INPUT: true; the input reads as it did. -/
def gcmTimesSpec : ChangeSpec := { name := "gcmTimes", fn := fun _ => fun
  | [d1, d2, d3] => { results := [.lit (.bool true)], args := [d1, d2, d3] }
  | _ => none }
def gcmTimesRow : OpenClaim := { program := "ytjbohfonjalfnaa", sum := "990826dad837697c2926cdd7383ba430783590f6825060d306ab6a84292b2ab2", func := "rhyne/rhynelaw04.GcmTimes", spec := "gcmTimes", apart := false }
def GcmTimesSaid : Prop := gcmTimesRow.holds Try.pinned (OpenSpec.ofChange gcmTimesSpec)

/-- ITS FALSE NEIGHBOUR: 'it returns false'. Refute it at one input. -/
def gcmTimesWrong : ChangeSpec := { name := "gcmTimes", fn := fun _ => fun
  | [d1, d2, d3] => { results := [.lit (.bool false)], args := [d1, d2, d3] }
  | _ => none }
def GcmTimesWrongFalsely : Prop := gcmTimesRow.holds Try.pinned (OpenSpec.ofChange gcmTimesWrong)

/-- 'rhynelaw04.GcmSeal': WHATEVER THE INPUT: true; the input reads as it did. -/
def gcmSealSpec : ChangeSpec := { name := "gcmSeal", fn := fun _ => fun
  | [d] => { results := [.lit (.bool true)], args := [d] }
  | _ => none }
def gcmSealRow : OpenClaim := { program := "ytjbohfonjalfnaa", sum := "990826dad837697c2926cdd7383ba430783590f6825060d306ab6a84292b2ab2", func := "rhyne/rhynelaw04.GcmSeal", spec := "gcmSeal", apart := false }
def GcmSealSaid : Prop := gcmSealRow.holds Try.pinned (OpenSpec.ofChange gcmSealSpec)

/-- ITS FALSE NEIGHBOUR: 'it returns false'. Refute it at one input. -/
def gcmSealWrong : ChangeSpec := { name := "gcmSeal", fn := fun _ => fun
  | [d] => { results := [.lit (.bool false)], args := [d] }
  | _ => none }
def GcmSealWrongFalsely : Prop := gcmSealRow.holds Try.pinned (OpenSpec.ofChange gcmSealWrong)

/-- 'rhynelaw04.GcmOpen': WHATEVER THE INPUT: true; the input reads as it did. -/
def gcmOpenSpec : ChangeSpec := { name := "gcmOpen", fn := fun _ => fun
  | [d] => { results := [.lit (.bool true)], args := [d] }
  | _ => none }
def gcmOpenRow : OpenClaim := { program := "ytjbohfonjalfnaa", sum := "990826dad837697c2926cdd7383ba430783590f6825060d306ab6a84292b2ab2", func := "rhyne/rhynelaw04.GcmOpen", spec := "gcmOpen", apart := false }
def GcmOpenSaid : Prop := gcmOpenRow.holds Try.pinned (OpenSpec.ofChange gcmOpenSpec)

/-- ITS FALSE NEIGHBOUR: 'it returns false'. Refute it at one input. -/
def gcmOpenWrong : ChangeSpec := { name := "gcmOpen", fn := fun _ => fun
  | [d] => { results := [.lit (.bool false)], args := [d] }
  | _ => none }
def GcmOpenWrongFalsely : Prop := gcmOpenRow.holds Try.pinned (OpenSpec.ofChange gcmOpenWrong)

/-- 'rhynelaw04.GcmSpoilt': WHATEVER THE INPUT: true; the input reads as it did. -/
def gcmSpoiltSpec : ChangeSpec := { name := "gcmSpoilt", fn := fun _ => fun
  | [d1, d2, d3] => { results := [.lit (.bool true)], args := [d1, d2, d3] }
  | _ => none }
def gcmSpoiltRow : OpenClaim := { program := "ytjbohfonjalfnaa", sum := "990826dad837697c2926cdd7383ba430783590f6825060d306ab6a84292b2ab2", func := "rhyne/rhynelaw04.GcmSpoilt", spec := "gcmSpoilt", apart := false }
def GcmSpoiltSaid : Prop := gcmSpoiltRow.holds Try.pinned (OpenSpec.ofChange gcmSpoiltSpec)

/-- ITS FALSE NEIGHBOUR: 'it returns false'. Refute it at one input. -/
def gcmSpoiltWrong : ChangeSpec := { name := "gcmSpoilt", fn := fun _ => fun
  | [d1, d2, d3] => { results := [.lit (.bool false)], args := [d1, d2, d3] }
  | _ => none }
def GcmSpoiltWrongFalsely : Prop := gcmSpoiltRow.holds Try.pinned (OpenSpec.ofChange gcmSpoiltWrong)

/-- 'rhynelaw04.GcmSame': WHATEVER THE INPUT: true; the input reads as it did. -/
def gcmSameSpec : ChangeSpec := { name := "gcmSame", fn := fun _ => fun
  | [d1, d2] => { results := [.lit (.bool true)], args := [d1, d2] }
  | _ => none }
def gcmSameRow : OpenClaim := { program := "ytjbohfonjalfnaa", sum := "990826dad837697c2926cdd7383ba430783590f6825060d306ab6a84292b2ab2", func := "rhyne/rhynelaw04.GcmSame", spec := "gcmSame", apart := false }
def GcmSameSaid : Prop := gcmSameRow.holds Try.pinned (OpenSpec.ofChange gcmSameSpec)

/-- ITS FALSE NEIGHBOUR: 'it returns false'. Refute it at one input. -/
def gcmSameWrong : ChangeSpec := { name := "gcmSame", fn := fun _ => fun
  | [d1, d2] => { results := [.lit (.bool false)], args := [d1, d2] }
  | _ => none }
def GcmSameWrongFalsely : Prop := gcmSameRow.holds Try.pinned (OpenSpec.ofChange gcmSameWrong)

/- THE SECOND FORM. 'bulk': how many values and letters a reading holds, each counted each time it is reached (what is shared counts as often as it is met; a slice's spare places count too). A statement '..UptoSaid' is the law's where the arguments, and the package variables that the reading takes, are together of bulk at most 1048576: NARROWER than '..Said'. Prove '..Said' where nothing that the law and all that it calls make is longer than what came in: it says more and counts as full. Else prove '..UptoSaid'. A law counts once. -/
mutual
def uptoBulk {H : Type} : DataW H → Nat
  | .lit (.string bytes) => bytes.length + 1
  | .lit _ => 1
  | .nil => 1
  | .ptr d => uptoBulk d + 1
  | .slice elems spare => uptoBulkAll elems + uptoBulkAll spare + 1
  | .agg parts => uptoBulkAll parts + 1
  | .iface _ d => uptoBulk d + 1
  | .map entries => uptoBulkEntries entries + 1
  | .held _ => 1
def uptoBulkAll {H : Type} : List (DataW H) → Nat
  | [] => 0
  | d :: r => uptoBulk d + uptoBulkAll r
def uptoBulkEntries {H : Type} : List (Lit × DataW H) → Nat
  | [] => 0
  | x :: r => uptoBulkEntry x + uptoBulkEntries r
def uptoBulkEntry {H : Type} : Lit × DataW H → Nat
  | (.string bytes, d) => bytes.length + uptoBulk d + 1
  | (_, d) => uptoBulk d + 1
 end
def uptoSmall : (H : Type) → List (DataW H) → Bool := fun _ ds => decide (uptoBulkAll ds ≤ 1048576)
def OpenSpec.upto (s : _root_.Go.ChangeSpec) : _root_.Go.OpenSpec := { _root_.Go.OpenSpec.ofChange s with cond := some uptoSmall }

/-- 'rhynelaw03.AesBlock', WHERE WHAT IT READS IS OF BULK AT MOST 1048576: true; the input reads as it did. -/
def aesBlockUptoRow : OpenClaim := { program := "ytjbohfonjalfnaa", sum := "990826dad837697c2926cdd7383ba430783590f6825060d306ab6a84292b2ab2", func := "rhyne/rhynelaw03.AesBlock", spec := "aesBlock", apart := false, narrowed := true }
def AesBlockUptoSaid : Prop := aesBlockUptoRow.holds Try.pinned (OpenSpec.upto aesBlockSpec)

/-- 'rhynelaw03.AesApart', WHERE WHAT IT READS IS OF BULK AT MOST 1048576: true; the input reads as it did. -/
def aesApartUptoRow : OpenClaim := { program := "ytjbohfonjalfnaa", sum := "990826dad837697c2926cdd7383ba430783590f6825060d306ab6a84292b2ab2", func := "rhyne/rhynelaw03.AesApart", spec := "aesApart", apart := false, narrowed := true }
def AesApartUptoSaid : Prop := aesApartUptoRow.holds Try.pinned (OpenSpec.upto aesApartSpec)

/-- 'rhynelaw03.AesSizes', WHERE WHAT IT READS IS OF BULK AT MOST 1048576: true; the input reads as it did. -/
def aesSizesUptoRow : OpenClaim := { program := "ytjbohfonjalfnaa", sum := "990826dad837697c2926cdd7383ba430783590f6825060d306ab6a84292b2ab2", func := "rhyne/rhynelaw03.AesSizes", spec := "aesSizes", apart := false, narrowed := true }
def AesSizesUptoSaid : Prop := aesSizesUptoRow.holds Try.pinned (OpenSpec.upto aesSizesSpec)

/-- 'rhynelaw03.AesStream', WHERE WHAT IT READS IS OF BULK AT MOST 1048576: true; the input reads as it did. -/
def aesStreamUptoRow : OpenClaim := { program := "ytjbohfonjalfnaa", sum := "990826dad837697c2926cdd7383ba430783590f6825060d306ab6a84292b2ab2", func := "rhyne/rhynelaw03.AesStream", spec := "aesStream", apart := false, narrowed := true }
def AesStreamUptoSaid : Prop := aesStreamUptoRow.holds Try.pinned (OpenSpec.upto aesStreamSpec)

/-- 'rhynelaw03.AesParts', WHERE WHAT IT READS IS OF BULK AT MOST 1048576: true; the input reads as it did. -/
def aesPartsUptoRow : OpenClaim := { program := "ytjbohfonjalfnaa", sum := "990826dad837697c2926cdd7383ba430783590f6825060d306ab6a84292b2ab2", func := "rhyne/rhynelaw03.AesParts", spec := "aesParts", apart := false, narrowed := true }
def AesPartsUptoSaid : Prop := aesPartsUptoRow.holds Try.pinned (OpenSpec.upto aesPartsSpec)

/-- 'rhynelaw03.AesCounts', WHERE WHAT IT READS IS OF BULK AT MOST 1048576: true; the input reads as it did. -/
def aesCountsUptoRow : OpenClaim := { program := "ytjbohfonjalfnaa", sum := "990826dad837697c2926cdd7383ba430783590f6825060d306ab6a84292b2ab2", func := "rhyne/rhynelaw03.AesCounts", spec := "aesCounts", apart := false, narrowed := true }
def AesCountsUptoSaid : Prop := aesCountsUptoRow.holds Try.pinned (OpenSpec.upto aesCountsSpec)

/-- 'rhynelaw04.GcmHides', WHERE WHAT IT READS IS OF BULK AT MOST 1048576: true; the input reads as it did. -/
def gcmHidesUptoRow : OpenClaim := { program := "ytjbohfonjalfnaa", sum := "990826dad837697c2926cdd7383ba430783590f6825060d306ab6a84292b2ab2", func := "rhyne/rhynelaw04.GcmHides", spec := "gcmHides", apart := false, narrowed := true }
def GcmHidesUptoSaid : Prop := gcmHidesUptoRow.holds Try.pinned (OpenSpec.upto gcmHidesSpec)

/-- 'rhynelaw04.GcmTimes', WHERE WHAT IT READS IS OF BULK AT MOST 1048576: true; the input reads as it did. -/
def gcmTimesUptoRow : OpenClaim := { program := "ytjbohfonjalfnaa", sum := "990826dad837697c2926cdd7383ba430783590f6825060d306ab6a84292b2ab2", func := "rhyne/rhynelaw04.GcmTimes", spec := "gcmTimes", apart := false, narrowed := true }
def GcmTimesUptoSaid : Prop := gcmTimesUptoRow.holds Try.pinned (OpenSpec.upto gcmTimesSpec)

/-- 'rhynelaw04.GcmSeal', WHERE WHAT IT READS IS OF BULK AT MOST 1048576: true; the input reads as it did. -/
def gcmSealUptoRow : OpenClaim := { program := "ytjbohfonjalfnaa", sum := "990826dad837697c2926cdd7383ba430783590f6825060d306ab6a84292b2ab2", func := "rhyne/rhynelaw04.GcmSeal", spec := "gcmSeal", apart := false, narrowed := true }
def GcmSealUptoSaid : Prop := gcmSealUptoRow.holds Try.pinned (OpenSpec.upto gcmSealSpec)

/-- 'rhynelaw04.GcmOpen', WHERE WHAT IT READS IS OF BULK AT MOST 1048576: true; the input reads as it did. -/
def gcmOpenUptoRow : OpenClaim := { program := "ytjbohfonjalfnaa", sum := "990826dad837697c2926cdd7383ba430783590f6825060d306ab6a84292b2ab2", func := "rhyne/rhynelaw04.GcmOpen", spec := "gcmOpen", apart := false, narrowed := true }
def GcmOpenUptoSaid : Prop := gcmOpenUptoRow.holds Try.pinned (OpenSpec.upto gcmOpenSpec)

/-- 'rhynelaw04.GcmSpoilt', WHERE WHAT IT READS IS OF BULK AT MOST 1048576: true; the input reads as it did. -/
def gcmSpoiltUptoRow : OpenClaim := { program := "ytjbohfonjalfnaa", sum := "990826dad837697c2926cdd7383ba430783590f6825060d306ab6a84292b2ab2", func := "rhyne/rhynelaw04.GcmSpoilt", spec := "gcmSpoilt", apart := false, narrowed := true }
def GcmSpoiltUptoSaid : Prop := gcmSpoiltUptoRow.holds Try.pinned (OpenSpec.upto gcmSpoiltSpec)

/-- 'rhynelaw04.GcmSame', WHERE WHAT IT READS IS OF BULK AT MOST 1048576: true; the input reads as it did. -/
def gcmSameUptoRow : OpenClaim := { program := "ytjbohfonjalfnaa", sum := "990826dad837697c2926cdd7383ba430783590f6825060d306ab6a84292b2ab2", func := "rhyne/rhynelaw04.GcmSame", spec := "gcmSame", apart := false, narrowed := true }
def GcmSameUptoSaid : Prop := gcmSameUptoRow.holds Try.pinned (OpenSpec.upto gcmSameSpec)

end Rows
end Go.Proofs.Ytjbohfonjalfnaa
