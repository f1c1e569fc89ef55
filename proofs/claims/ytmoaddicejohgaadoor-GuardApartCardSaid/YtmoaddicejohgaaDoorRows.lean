/-
  NARROWER THAN 'FOR EVERY INPUT', by the rows' own cells (each row's printed sentence says how): GuardRetries: laid · GuardSeals: laid · GuardReads: laid · GuardBacks: laid · GuardApart: laid.
  DERIVED. THE GIVEN ROWS OF THIS SEAT. 5 by the template 'for every input the law returns true; each argument reads behind the call as it read before'; 0 by the template 'total and deterministic' (their statements: YtmoaddicejohgaaDoorTotals.lean).
  GIVEN WITH THE SEED: the statements are not yours to turn. If you find one false, say at which input.
  Laid BY PROGRAM, IN A SANDBOX (cutbox-rows.mjs): the forced cells as the released guide's own fill.sh prints them over the translation bfbb544e78d468a3… (all of the seat's roots in one cut). By AI agents, Wed Nov 11 2026. No macro, syntax, notation, axiom, sorry.
-/
import Derived.Test.YtmoaddicejohgaaDoorChecked
import GoSem.Claim
import GoSem.ClaimJoined
import GoSem.ClaimMapViews
import Derived.JoinedTies
import Derived.KernelRfl
namespace Go.Proofs.YtmoaddicejohgaaDoor
/- THE CELL 'sum', in the pinned program and in every row, IS THE sha256 OF THE DUMP (.gsa) THAT YtmoaddicejohgaaDoorProg.lean LOADS. Nothing in Lean hashes anything: it is a label: what it is worth is what the hold of that sum in a sandbox is worth. -/
noncomputable def Tryd.pinned : Pinned := { name := "ytmoaddicejohgaadoor", sum := "bfbb544e78d468a37891591e12d1462f4449bddc67ac5a86672cb326d972844f", checked := Tryd.checked }
namespace Rows
def none {H : Type} : Left H := { results := [], args := [] }

/- WHAT THE LISTED PACKAGE-LEVEL VARIABLES READ AS WHEN THE CALL BEGINS. Each datum BY PROGRAM (the guide's laid-datum.mjs) off the statement by which the dump's own 'gosem.cut.vars' lays the variable. In a bare row this is a premise. The card (YtmoaddicejohgaaDoorCards.lean) ties it to the program's text. -/
def laid_rhyne_sha_first {H : Type} : DataW H := .agg [.lit (.int .u32 1779033703), .lit (.int .u32 3144134277), .lit (.int .u32 1013904242), .lit (.int .u32 2773480762), .lit (.int .u32 1359893119), .lit (.int .u32 2600822924), .lit (.int .u32 528734635), .lit (.int .u32 1541459225)]
def laid_rhyne_sha_round {H : Type} : DataW H := .agg [.lit (.int .u32 1116352408), .lit (.int .u32 1899447441), .lit (.int .u32 3049323471), .lit (.int .u32 3921009573), .lit (.int .u32 961987163), .lit (.int .u32 1508970993), .lit (.int .u32 2453635748), .lit (.int .u32 2870763221), .lit (.int .u32 3624381080), .lit (.int .u32 310598401), .lit (.int .u32 607225278), .lit (.int .u32 1426881987), .lit (.int .u32 1925078388), .lit (.int .u32 2162078206), .lit (.int .u32 2614888103), .lit (.int .u32 3248222580), .lit (.int .u32 3835390401), .lit (.int .u32 4022224774), .lit (.int .u32 264347078), .lit (.int .u32 604807628), .lit (.int .u32 770255983), .lit (.int .u32 1249150122), .lit (.int .u32 1555081692), .lit (.int .u32 1996064986), .lit (.int .u32 2554220882), .lit (.int .u32 2821834349), .lit (.int .u32 2952996808), .lit (.int .u32 3210313671), .lit (.int .u32 3336571891), .lit (.int .u32 3584528711), .lit (.int .u32 113926993), .lit (.int .u32 338241895), .lit (.int .u32 666307205), .lit (.int .u32 773529912), .lit (.int .u32 1294757372), .lit (.int .u32 1396182291), .lit (.int .u32 1695183700), .lit (.int .u32 1986661051), .lit (.int .u32 2177026350), .lit (.int .u32 2456956037), .lit (.int .u32 2730485921), .lit (.int .u32 2820302411), .lit (.int .u32 3259730800), .lit (.int .u32 3345764771), .lit (.int .u32 3516065817), .lit (.int .u32 3600352804), .lit (.int .u32 4094571909), .lit (.int .u32 275423344), .lit (.int .u32 430227734), .lit (.int .u32 506948616), .lit (.int .u32 659060556), .lit (.int .u32 883997877), .lit (.int .u32 958139571), .lit (.int .u32 1322822218), .lit (.int .u32 1537002063), .lit (.int .u32 1747873779), .lit (.int .u32 1955562222), .lit (.int .u32 2024104815), .lit (.int .u32 2227730452), .lit (.int .u32 2361852424), .lit (.int .u32 2428436474), .lit (.int .u32 2756734187), .lit (.int .u32 3204031479), .lit (.int .u32 3329325298)]

/-- 'rhynelaw10.GuardRetries': WHATEVER THE INPUT: true; the input reads as it did. -/
def guardRetriesSpec : ChangeSpec := { name := "guardRetries", fn := fun _ => fun
  | [d1, d2] => { results := [.lit (.bool true)], args := [d1, d2] }
  | _ => none }
def guardRetriesRow : OpenClaim := { program := "ytmoaddicejohgaadoor", sum := "bfbb544e78d468a37891591e12d1462f4449bddc67ac5a86672cb326d972844f", func := "rhyne/rhynelaw10.GuardRetries", spec := "guardRetries", recurses := true, named := ["rhyne/sha.first", "rhyne/sha.round"], apart := false, laid := [("rhyne/sha.first", laid_rhyne_sha_first), ("rhyne/sha.round", laid_rhyne_sha_round)] }
def GuardRetriesSaid : Prop := guardRetriesRow.holds Tryd.pinned (OpenSpec.ofChange guardRetriesSpec)

/-- ITS FALSE NEIGHBOUR: 'it returns false'. Refute it at one input. -/
def guardRetriesWrong : ChangeSpec := { name := "guardRetries", fn := fun _ => fun
  | [d1, d2] => { results := [.lit (.bool false)], args := [d1, d2] }
  | _ => none }
def GuardRetriesWrongFalsely : Prop := guardRetriesRow.holds Tryd.pinned (OpenSpec.ofChange guardRetriesWrong)

/-- 'rhynelaw10.GuardSeals': WHATEVER THE INPUT: true; the input reads as it did. -/
def guardSealsSpec : ChangeSpec := { name := "guardSeals", fn := fun _ => fun
  | [d] => { results := [.lit (.bool true)], args := [d] }
  | _ => none }
def guardSealsRow : OpenClaim := { program := "ytmoaddicejohgaadoor", sum := "bfbb544e78d468a37891591e12d1462f4449bddc67ac5a86672cb326d972844f", func := "rhyne/rhynelaw10.GuardSeals", spec := "guardSeals", recurses := true, named := ["rhyne/sha.first", "rhyne/sha.round"], apart := false, laid := [("rhyne/sha.first", laid_rhyne_sha_first), ("rhyne/sha.round", laid_rhyne_sha_round)] }
def GuardSealsSaid : Prop := guardSealsRow.holds Tryd.pinned (OpenSpec.ofChange guardSealsSpec)

/-- ITS FALSE NEIGHBOUR: 'it returns false'. Refute it at one input. -/
def guardSealsWrong : ChangeSpec := { name := "guardSeals", fn := fun _ => fun
  | [d] => { results := [.lit (.bool false)], args := [d] }
  | _ => none }
def GuardSealsWrongFalsely : Prop := guardSealsRow.holds Tryd.pinned (OpenSpec.ofChange guardSealsWrong)

/-- 'rhynelaw10.GuardReads': WHATEVER THE INPUT: true; the input reads as it did. -/
def guardReadsSpec : ChangeSpec := { name := "guardReads", fn := fun _ => fun
  | [d] => { results := [.lit (.bool true)], args := [d] }
  | _ => none }
def guardReadsRow : OpenClaim := { program := "ytmoaddicejohgaadoor", sum := "bfbb544e78d468a37891591e12d1462f4449bddc67ac5a86672cb326d972844f", func := "rhyne/rhynelaw10.GuardReads", spec := "guardReads", recurses := true, named := ["rhyne/sha.first", "rhyne/sha.round"], apart := false, laid := [("rhyne/sha.first", laid_rhyne_sha_first), ("rhyne/sha.round", laid_rhyne_sha_round)] }
def GuardReadsSaid : Prop := guardReadsRow.holds Tryd.pinned (OpenSpec.ofChange guardReadsSpec)

/-- ITS FALSE NEIGHBOUR: 'it returns false'. Refute it at one input. -/
def guardReadsWrong : ChangeSpec := { name := "guardReads", fn := fun _ => fun
  | [d] => { results := [.lit (.bool false)], args := [d] }
  | _ => none }
def GuardReadsWrongFalsely : Prop := guardReadsRow.holds Tryd.pinned (OpenSpec.ofChange guardReadsWrong)

/-- 'rhynelaw10.GuardBacks': WHATEVER THE INPUT: true; the input reads as it did. -/
def guardBacksSpec : ChangeSpec := { name := "guardBacks", fn := fun _ => fun
  | [d] => { results := [.lit (.bool true)], args := [d] }
  | _ => none }
def guardBacksRow : OpenClaim := { program := "ytmoaddicejohgaadoor", sum := "bfbb544e78d468a37891591e12d1462f4449bddc67ac5a86672cb326d972844f", func := "rhyne/rhynelaw10.GuardBacks", spec := "guardBacks", recurses := true, named := ["rhyne/sha.first", "rhyne/sha.round"], apart := false, laid := [("rhyne/sha.first", laid_rhyne_sha_first), ("rhyne/sha.round", laid_rhyne_sha_round)] }
def GuardBacksSaid : Prop := guardBacksRow.holds Tryd.pinned (OpenSpec.ofChange guardBacksSpec)

/-- ITS FALSE NEIGHBOUR: 'it returns false'. Refute it at one input. -/
def guardBacksWrong : ChangeSpec := { name := "guardBacks", fn := fun _ => fun
  | [d] => { results := [.lit (.bool false)], args := [d] }
  | _ => none }
def GuardBacksWrongFalsely : Prop := guardBacksRow.holds Tryd.pinned (OpenSpec.ofChange guardBacksWrong)

/-- 'rhynelaw10.GuardApart': WHATEVER THE INPUT: true; the input reads as it did. -/
def guardApartSpec : ChangeSpec := { name := "guardApart", fn := fun _ => fun
  | [d1, d2] => { results := [.lit (.bool true)], args := [d1, d2] }
  | _ => none }
def guardApartRow : OpenClaim := { program := "ytmoaddicejohgaadoor", sum := "bfbb544e78d468a37891591e12d1462f4449bddc67ac5a86672cb326d972844f", func := "rhyne/rhynelaw10.GuardApart", spec := "guardApart", recurses := true, named := ["rhyne/sha.first", "rhyne/sha.round"], apart := false, laid := [("rhyne/sha.first", laid_rhyne_sha_first), ("rhyne/sha.round", laid_rhyne_sha_round)] }
def GuardApartSaid : Prop := guardApartRow.holds Tryd.pinned (OpenSpec.ofChange guardApartSpec)

/-- ITS FALSE NEIGHBOUR: 'it returns false'. Refute it at one input. -/
def guardApartWrong : ChangeSpec := { name := "guardApart", fn := fun _ => fun
  | [d1, d2] => { results := [.lit (.bool false)], args := [d1, d2] }
  | _ => none }
def GuardApartWrongFalsely : Prop := guardApartRow.holds Tryd.pinned (OpenSpec.ofChange guardApartWrong)

/- THE SECOND FORM. 'bulk': how many values and letters a reading holds, each counted each time it is reached (what is shared counts as often as it is met; a slice's spare places count too). A statement '..UptoSaid' is the law's where the arguments, and the package variables that the reading takes, are together of bulk at most 1048576: NARROWER than '..Said'. Prove '..Said' where nothing that the law and all that it calls make is longer than what came in: it says more and counts as full. Else prove '..UptoSaid'. A law counts once. -/
mutual
def uptoBulk {H : Type} : DataW H → Nat
  | .lit (.string bytes) => bytes.length + 1
  | .lit _ => 1
  | .nil => 1
  | .ptr d => uptoBulk d + 1
  | .slice elems spare => uptoBulkAll elems + uptoBulkAll spare + 1
  | .agg parts => uptoBulkAll parts + 1
  | .iface _ d => uptoBulk d + 1
  | .map entries => uptoBulkEntries entries + 1
  | .held _ => 1
def uptoBulkAll {H : Type} : List (DataW H) → Nat
  | [] => 0
  | d :: r => uptoBulk d + uptoBulkAll r
def uptoBulkEntries {H : Type} : List (Lit × DataW H) → Nat
  | [] => 0
  | x :: r => uptoBulkEntry x + uptoBulkEntries r
def uptoBulkEntry {H : Type} : Lit × DataW H → Nat
  | (.string bytes, d) => bytes.length + uptoBulk d + 1
  | (_, d) => uptoBulk d + 1
 end
def uptoSmall : (H : Type) → List (DataW H) → Bool := fun _ ds => decide (uptoBulkAll ds ≤ 1048576)
def OpenSpec.upto (s : _root_.Go.ChangeSpec) : _root_.Go.OpenSpec := { _root_.Go.OpenSpec.ofChange s with cond := some uptoSmall }

/-- 'rhynelaw10.GuardRetries', WHERE WHAT IT READS IS OF BULK AT MOST 1048576: true; the input reads as it did. -/
def guardRetriesUptoRow : OpenClaim := { program := "ytmoaddicejohgaadoor", sum := "bfbb544e78d468a37891591e12d1462f4449bddc67ac5a86672cb326d972844f", func := "rhyne/rhynelaw10.GuardRetries", spec := "guardRetries", recurses := true, named := ["rhyne/sha.first", "rhyne/sha.round"], apart := false, laid := [("rhyne/sha.first", laid_rhyne_sha_first), ("rhyne/sha.round", laid_rhyne_sha_round)], narrowed := true }
def GuardRetriesUptoSaid : Prop := guardRetriesUptoRow.holds Tryd.pinned (OpenSpec.upto guardRetriesSpec)

/-- 'rhynelaw10.GuardSeals', WHERE WHAT IT READS IS OF BULK AT MOST 1048576: true; the input reads as it did. -/
def guardSealsUptoRow : OpenClaim := { program := "ytmoaddicejohgaadoor", sum := "bfbb544e78d468a37891591e12d1462f4449bddc67ac5a86672cb326d972844f", func := "rhyne/rhynelaw10.GuardSeals", spec := "guardSeals", recurses := true, named := ["rhyne/sha.first", "rhyne/sha.round"], apart := false, laid := [("rhyne/sha.first", laid_rhyne_sha_first), ("rhyne/sha.round", laid_rhyne_sha_round)], narrowed := true }
def GuardSealsUptoSaid : Prop := guardSealsUptoRow.holds Tryd.pinned (OpenSpec.upto guardSealsSpec)

/-- 'rhynelaw10.GuardReads', WHERE WHAT IT READS IS OF BULK AT MOST 1048576: true; the input reads as it did. -/
def guardReadsUptoRow : OpenClaim := { program := "ytmoaddicejohgaadoor", sum := "bfbb544e78d468a37891591e12d1462f4449bddc67ac5a86672cb326d972844f", func := "rhyne/rhynelaw10.GuardReads", spec := "guardReads", recurses := true, named := ["rhyne/sha.first", "rhyne/sha.round"], apart := false, laid := [("rhyne/sha.first", laid_rhyne_sha_first), ("rhyne/sha.round", laid_rhyne_sha_round)], narrowed := true }
def GuardReadsUptoSaid : Prop := guardReadsUptoRow.holds Tryd.pinned (OpenSpec.upto guardReadsSpec)

/-- 'rhynelaw10.GuardBacks', WHERE WHAT IT READS IS OF BULK AT MOST 1048576: true; the input reads as it did. -/
def guardBacksUptoRow : OpenClaim := { program := "ytmoaddicejohgaadoor", sum := "bfbb544e78d468a37891591e12d1462f4449bddc67ac5a86672cb326d972844f", func := "rhyne/rhynelaw10.GuardBacks", spec := "guardBacks", recurses := true, named := ["rhyne/sha.first", "rhyne/sha.round"], apart := false, laid := [("rhyne/sha.first", laid_rhyne_sha_first), ("rhyne/sha.round", laid_rhyne_sha_round)], narrowed := true }
def GuardBacksUptoSaid : Prop := guardBacksUptoRow.holds Tryd.pinned (OpenSpec.upto guardBacksSpec)

/-- 'rhynelaw10.GuardApart', WHERE WHAT IT READS IS OF BULK AT MOST 1048576: true; the input reads as it did. -/
def guardApartUptoRow : OpenClaim := { program := "ytmoaddicejohgaadoor", sum := "bfbb544e78d468a37891591e12d1462f4449bddc67ac5a86672cb326d972844f", func := "rhyne/rhynelaw10.GuardApart", spec := "guardApart", recurses := true, named := ["rhyne/sha.first", "rhyne/sha.round"], apart := false, laid := [("rhyne/sha.first", laid_rhyne_sha_first), ("rhyne/sha.round", laid_rhyne_sha_round)], narrowed := true }
def GuardApartUptoSaid : Prop := guardApartUptoRow.holds Tryd.pinned (OpenSpec.upto guardApartSpec)

end Rows
end Go.Proofs.YtmoaddicejohgaaDoor
