/-
  No cell of these rows narrows 'for every input' (looked for: loops, veiled, ifaces, maps, wideKeys, modest, calm, conditions, laid).
  DERIVED. THE GIVEN ROWS OF THIS SEAT. 4 by the template 'for every input the law returns true; each argument reads behind the call as it read before'; 0 by the template 'total and deterministic' (their statements: YtfagpgpeiomnpaaTotals.lean).
  GIVEN WITH THE SEED: the statements are not yours to turn. If you find one false, say at which input.
  Laid BY PROGRAM, IN A SANDBOX (cutbox-rows.mjs): the forced cells as the released guide's own fill.sh prints them over the translation 9559a211d6f918eb… (all of the seat's roots in one cut). By AI agents, Wed Nov 11 2026. No macro, syntax, notation, axiom, sorry.
-/
import Derived.Test.YtfagpgpeiomnpaaChecked
import GoSem.Claim
import GoSem.ClaimJoined
import GoSem.ClaimMapViews
import Derived.JoinedTies
import Derived.KernelRfl
namespace Go.Proofs.Ytfagpgpeiomnpaa
/- THE CELL 'sum', in the pinned program and in every row, IS THE sha256 OF THE DUMP (.gsa) THAT YtfagpgpeiomnpaaProg.lean LOADS. Nothing in Lean hashes anything: it is a label: what it is worth is what the hold of that sum in a sandbox is worth. -/
noncomputable def Try.pinned : Pinned := { name := "ytfagpgpeiomnpaa", sum := "9559a211d6f918eb615589d04f2acc23c953a6f8e8b2ed14e4af636315839b55", checked := Try.checked }
namespace Rows
def none {H : Type} : Left H := { results := [], args := [] }

/-- 'pascalinelaw06.ListingLines': WHATEVER THE INPUT: true; the input reads as it did. -/
def listingLinesSpec : ChangeSpec := { name := "listingLines", fn := fun _ => fun
  | [d1, d2, d3] => { results := [.lit (.bool true)], args := [d1, d2, d3] }
  | _ => none }
def listingLinesRow : OpenClaim := { program := "ytfagpgpeiomnpaa", sum := "9559a211d6f918eb615589d04f2acc23c953a6f8e8b2ed14e4af636315839b55", func := "pascaline/pascalinelaw06.ListingLines", spec := "listingLines", apart := false }
def ListingLinesSaid : Prop := listingLinesRow.holds Try.pinned (OpenSpec.ofChange listingLinesSpec)

/-- ITS FALSE NEIGHBOUR: 'it returns false'. Refute it at one input. -/
def listingLinesWrong : ChangeSpec := { name := "listingLines", fn := fun _ => fun
  | [d1, d2, d3] => { results := [.lit (.bool false)], args := [d1, d2, d3] }
  | _ => none }
def ListingLinesWrongFalsely : Prop := listingLinesRow.holds Try.pinned (OpenSpec.ofChange listingLinesWrong)

/-- 'pascalinelaw06.ListingReaches': WHATEVER THE INPUT: true; the input reads as it did. -/
def listingReachesSpec : ChangeSpec := { name := "listingReaches", fn := fun _ => fun
  | [d1, d2] => { results := [.lit (.bool true)], args := [d1, d2] }
  | _ => none }
def listingReachesRow : OpenClaim := { program := "ytfagpgpeiomnpaa", sum := "9559a211d6f918eb615589d04f2acc23c953a6f8e8b2ed14e4af636315839b55", func := "pascaline/pascalinelaw06.ListingReaches", spec := "listingReaches", apart := false }
def ListingReachesSaid : Prop := listingReachesRow.holds Try.pinned (OpenSpec.ofChange listingReachesSpec)

/-- ITS FALSE NEIGHBOUR: 'it returns false'. Refute it at one input. -/
def listingReachesWrong : ChangeSpec := { name := "listingReaches", fn := fun _ => fun
  | [d1, d2] => { results := [.lit (.bool false)], args := [d1, d2] }
  | _ => none }
def ListingReachesWrongFalsely : Prop := listingReachesRow.holds Try.pinned (OpenSpec.ofChange listingReachesWrong)

/-- 'pascalinelaw06.ListingReads': WHATEVER THE INPUT: true; the input reads as it did. -/
def listingReadsSpec : ChangeSpec := { name := "listingReads", fn := fun _ => fun
  | [d] => { results := [.lit (.bool true)], args := [d] }
  | _ => none }
def listingReadsRow : OpenClaim := { program := "ytfagpgpeiomnpaa", sum := "9559a211d6f918eb615589d04f2acc23c953a6f8e8b2ed14e4af636315839b55", func := "pascaline/pascalinelaw06.ListingReads", spec := "listingReads", inPlace := ["internal/bytealg.IndexByteString", "internal/bytealg.IndexString"], named := ["internal/bytealg.MaxLen"], apart := false }
def ListingReadsSaid : Prop := listingReadsRow.holds Try.pinned (OpenSpec.ofChange listingReadsSpec)

/-- ITS FALSE NEIGHBOUR: 'it returns false'. Refute it at one input. -/
def listingReadsWrong : ChangeSpec := { name := "listingReads", fn := fun _ => fun
  | [d] => { results := [.lit (.bool false)], args := [d] }
  | _ => none }
def ListingReadsWrongFalsely : Prop := listingReadsRow.holds Try.pinned (OpenSpec.ofChange listingReadsWrong)

/-- 'pascalinelaw06.ListingPrints': WHATEVER THE INPUT: true; the input reads as it did. -/
def listingPrintsSpec : ChangeSpec := { name := "listingPrints", fn := fun _ => fun
  | [d1, d2] => { results := [.lit (.bool true)], args := [d1, d2] }
  | _ => none }
def listingPrintsRow : OpenClaim := { program := "ytfagpgpeiomnpaa", sum := "9559a211d6f918eb615589d04f2acc23c953a6f8e8b2ed14e4af636315839b55", func := "pascaline/pascalinelaw06.ListingPrints", spec := "listingPrints", inPlace := ["internal/abi.NoEscape", "internal/bytealg.IndexByteString", "internal/bytealg.IndexString"], unfollowed := true, recurses := true, named := ["internal/bytealg.MaxLen"], apart := false }
def ListingPrintsSaid : Prop := listingPrintsRow.holds Try.pinned (OpenSpec.ofChange listingPrintsSpec)

/-- ITS FALSE NEIGHBOUR: 'it returns false'. Refute it at one input. -/
def listingPrintsWrong : ChangeSpec := { name := "listingPrints", fn := fun _ => fun
  | [d1, d2] => { results := [.lit (.bool false)], args := [d1, d2] }
  | _ => none }
def ListingPrintsWrongFalsely : Prop := listingPrintsRow.holds Try.pinned (OpenSpec.ofChange listingPrintsWrong)

/- THE SECOND FORM. 'bulk': how many values and letters a reading holds, each counted each time it is reached (what is shared counts as often as it is met; a slice's spare places count too). A statement '..UptoSaid' is the law's where the arguments, and the package variables that the reading takes, are together of bulk at most 1048576: NARROWER than '..Said'. Prove '..Said' where nothing that the law and all that it calls make is longer than what came in: it says more and counts as full. Else prove '..UptoSaid'. A law counts once. -/
mutual
def uptoBulk {H : Type} : DataW H → Nat
  | .lit (.string bytes) => bytes.length + 1
  | .lit _ => 1
  | .nil => 1
  | .ptr d => uptoBulk d + 1
  | .slice elems spare => uptoBulkAll elems + uptoBulkAll spare + 1
  | .agg parts => uptoBulkAll parts + 1
  | .iface _ d => uptoBulk d + 1
  | .map entries => uptoBulkEntries entries + 1
  | .held _ => 1
def uptoBulkAll {H : Type} : List (DataW H) → Nat
  | [] => 0
  | d :: r => uptoBulk d + uptoBulkAll r
def uptoBulkEntries {H : Type} : List (Lit × DataW H) → Nat
  | [] => 0
  | x :: r => uptoBulkEntry x + uptoBulkEntries r
def uptoBulkEntry {H : Type} : Lit × DataW H → Nat
  | (.string bytes, d) => bytes.length + uptoBulk d + 1
  | (_, d) => uptoBulk d + 1
 end
def uptoSmall : (H : Type) → List (DataW H) → Bool := fun _ ds => decide (uptoBulkAll ds ≤ 1048576)
def OpenSpec.upto (s : _root_.Go.ChangeSpec) : _root_.Go.OpenSpec := { _root_.Go.OpenSpec.ofChange s with cond := some uptoSmall }

/-- 'pascalinelaw06.ListingLines', WHERE WHAT IT READS IS OF BULK AT MOST 1048576: true; the input reads as it did. -/
def listingLinesUptoRow : OpenClaim := { program := "ytfagpgpeiomnpaa", sum := "9559a211d6f918eb615589d04f2acc23c953a6f8e8b2ed14e4af636315839b55", func := "pascaline/pascalinelaw06.ListingLines", spec := "listingLines", apart := false, narrowed := true }
def ListingLinesUptoSaid : Prop := listingLinesUptoRow.holds Try.pinned (OpenSpec.upto listingLinesSpec)

/-- 'pascalinelaw06.ListingReaches', WHERE WHAT IT READS IS OF BULK AT MOST 1048576: true; the input reads as it did. -/
def listingReachesUptoRow : OpenClaim := { program := "ytfagpgpeiomnpaa", sum := "9559a211d6f918eb615589d04f2acc23c953a6f8e8b2ed14e4af636315839b55", func := "pascaline/pascalinelaw06.ListingReaches", spec := "listingReaches", apart := false, narrowed := true }
def ListingReachesUptoSaid : Prop := listingReachesUptoRow.holds Try.pinned (OpenSpec.upto listingReachesSpec)

/-- 'pascalinelaw06.ListingReads', WHERE WHAT IT READS IS OF BULK AT MOST 1048576: true; the input reads as it did. -/
def listingReadsUptoRow : OpenClaim := { program := "ytfagpgpeiomnpaa", sum := "9559a211d6f918eb615589d04f2acc23c953a6f8e8b2ed14e4af636315839b55", func := "pascaline/pascalinelaw06.ListingReads", spec := "listingReads", inPlace := ["internal/bytealg.IndexByteString", "internal/bytealg.IndexString"], named := ["internal/bytealg.MaxLen"], apart := false, narrowed := true }
def ListingReadsUptoSaid : Prop := listingReadsUptoRow.holds Try.pinned (OpenSpec.upto listingReadsSpec)

/-- 'pascalinelaw06.ListingPrints', WHERE WHAT IT READS IS OF BULK AT MOST 1048576: true; the input reads as it did. -/
def listingPrintsUptoRow : OpenClaim := { program := "ytfagpgpeiomnpaa", sum := "9559a211d6f918eb615589d04f2acc23c953a6f8e8b2ed14e4af636315839b55", func := "pascaline/pascalinelaw06.ListingPrints", spec := "listingPrints", inPlace := ["internal/abi.NoEscape", "internal/bytealg.IndexByteString", "internal/bytealg.IndexString"], unfollowed := true, recurses := true, named := ["internal/bytealg.MaxLen"], apart := false, narrowed := true }
def ListingPrintsUptoSaid : Prop := listingPrintsUptoRow.holds Try.pinned (OpenSpec.upto listingPrintsSpec)

end Rows
end Go.Proofs.Ytfagpgpeiomnpaa
