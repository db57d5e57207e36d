/-
  No cell of these rows narrows 'for every input' (looked for: loops, veiled, ifaces, maps, wideKeys, modest, calm, conditions, laid).
  DERIVED. THE GIVEN ROWS OF THIS SEAT. 3 by the template 'for every input the law returns true; each argument reads behind the call as it read before'; 0 by the template 'total and deterministic' (their statements: YtmebogkhdbbbbaaTotals.lean).
  GIVEN WITH THE SEED: the statements are not yours to turn. If you find one false, say at which input.
  Laid BY PROGRAM, IN A SANDBOX (cutbox-rows.mjs): the forced cells as the released guide's own fill.sh prints them over the translation df564143aec3fddf… (all of the seat's roots in one cut). By AI agents, Wed Nov 11 2026. No macro, syntax, notation, axiom, sorry.
-/
import Derived.Test.YtmebogkhdbbbbaaChecked
import GoSem.Claim
import GoSem.ClaimJoined
import GoSem.ClaimMapViews
import Derived.JoinedTies
import Derived.KernelRfl
namespace Go.Proofs.Ytmebogkhdbbbbaa
/- THE CELL 'sum', in the pinned program and in every row, IS THE sha256 OF THE DUMP (.gsa) THAT YtmebogkhdbbbbaaProg.lean LOADS. Nothing in Lean hashes anything: it is a label: what it is worth is what the hold of that sum in a sandbox is worth. -/
noncomputable def Try.pinned : Pinned := { name := "ytmebogkhdbbbbaa", sum := "df564143aec3fddfce2681ef518ad6840a854c7d8e0427b00dc6ecbf8c8da314", checked := Try.checked }
namespace Rows
def none {H : Type} : Left H := { results := [], args := [] }

/-- 'pascalinelaw31.ReportFaults': WHATEVER THE INPUT: true; the input reads as it did. -/
def reportFaultsSpec : ChangeSpec := { name := "reportFaults", fn := fun _ => fun
  | [d1, d2, d3] => { results := [.lit (.bool true)], args := [d1, d2, d3] }
  | _ => none }
def reportFaultsRow : OpenClaim := { program := "ytmebogkhdbbbbaa", sum := "df564143aec3fddfce2681ef518ad6840a854c7d8e0427b00dc6ecbf8c8da314", func := "pascaline/pascalinelaw31.ReportFaults", spec := "reportFaults", apart := false }
def ReportFaultsSaid : Prop := reportFaultsRow.holds Try.pinned (OpenSpec.ofChange reportFaultsSpec)

/-- ITS FALSE NEIGHBOUR: 'it returns false'. Refute it at one input. -/
def reportFaultsWrong : ChangeSpec := { name := "reportFaults", fn := fun _ => fun
  | [d1, d2, d3] => { results := [.lit (.bool false)], args := [d1, d2, d3] }
  | _ => none }
def ReportFaultsWrongFalsely : Prop := reportFaultsRow.holds Try.pinned (OpenSpec.ofChange reportFaultsWrong)

/-- 'pascalinelaw31.ReportPrograms': WHATEVER THE INPUT: true; the input reads as it did. -/
def reportProgramsSpec : ChangeSpec := { name := "reportPrograms", fn := fun _ => fun
  | [d1, d2, d3] => { results := [.lit (.bool true)], args := [d1, d2, d3] }
  | _ => none }
def reportProgramsRow : OpenClaim := { program := "ytmebogkhdbbbbaa", sum := "df564143aec3fddfce2681ef518ad6840a854c7d8e0427b00dc6ecbf8c8da314", func := "pascaline/pascalinelaw31.ReportPrograms", spec := "reportPrograms", inPlace := ["internal/abi.NoEscape"], apart := false }
def ReportProgramsSaid : Prop := reportProgramsRow.holds Try.pinned (OpenSpec.ofChange reportProgramsSpec)

/-- ITS FALSE NEIGHBOUR: 'it returns false'. Refute it at one input. -/
def reportProgramsWrong : ChangeSpec := { name := "reportPrograms", fn := fun _ => fun
  | [d1, d2, d3] => { results := [.lit (.bool false)], args := [d1, d2, d3] }
  | _ => none }
def ReportProgramsWrongFalsely : Prop := reportProgramsRow.holds Try.pinned (OpenSpec.ofChange reportProgramsWrong)

/-- 'pascalinelaw31.ReportLists': WHATEVER THE INPUT: true; the input reads as it did. -/
def reportListsSpec : ChangeSpec := { name := "reportLists", fn := fun _ => fun
  | [d1, d2] => { results := [.lit (.bool true)], args := [d1, d2] }
  | _ => none }
def reportListsRow : OpenClaim := { program := "ytmebogkhdbbbbaa", sum := "df564143aec3fddfce2681ef518ad6840a854c7d8e0427b00dc6ecbf8c8da314", func := "pascaline/pascalinelaw31.ReportLists", spec := "reportLists", inPlace := ["internal/abi.NoEscape"], unfollowed := true, recurses := true, apart := false }
def ReportListsSaid : Prop := reportListsRow.holds Try.pinned (OpenSpec.ofChange reportListsSpec)

/-- ITS FALSE NEIGHBOUR: 'it returns false'. Refute it at one input. -/
def reportListsWrong : ChangeSpec := { name := "reportLists", fn := fun _ => fun
  | [d1, d2] => { results := [.lit (.bool false)], args := [d1, d2] }
  | _ => none }
def ReportListsWrongFalsely : Prop := reportListsRow.holds Try.pinned (OpenSpec.ofChange reportListsWrong)

/- THE SECOND FORM. 'bulk': how many values and letters a reading holds, each counted each time it is reached (what is shared counts as often as it is met; a slice's spare places count too). A statement '..UptoSaid' is the law's where the arguments, and the package variables that the reading takes, are together of bulk at most 1048576: NARROWER than '..Said'. Prove '..Said' where nothing that the law and all that it calls make is longer than what came in: it says more and counts as full. Else prove '..UptoSaid'. A law counts once. -/
mutual
def uptoBulk {H : Type} : DataW H → Nat
  | .lit (.string bytes) => bytes.length + 1
  | .lit _ => 1
  | .nil => 1
  | .ptr d => uptoBulk d + 1
  | .slice elems spare => uptoBulkAll elems + uptoBulkAll spare + 1
  | .agg parts => uptoBulkAll parts + 1
  | .iface _ d => uptoBulk d + 1
  | .map entries => uptoBulkEntries entries + 1
  | .held _ => 1
def uptoBulkAll {H : Type} : List (DataW H) → Nat
  | [] => 0
  | d :: r => uptoBulk d + uptoBulkAll r
def uptoBulkEntries {H : Type} : List (Lit × DataW H) → Nat
  | [] => 0
  | x :: r => uptoBulkEntry x + uptoBulkEntries r
def uptoBulkEntry {H : Type} : Lit × DataW H → Nat
  | (.string bytes, d) => bytes.length + uptoBulk d + 1
  | (_, d) => uptoBulk d + 1
 end
def uptoSmall : (H : Type) → List (DataW H) → Bool := fun _ ds => decide (uptoBulkAll ds ≤ 1048576)
def OpenSpec.upto (s : _root_.Go.ChangeSpec) : _root_.Go.OpenSpec := { _root_.Go.OpenSpec.ofChange s with cond := some uptoSmall }

/-- 'pascalinelaw31.ReportFaults', WHERE WHAT IT READS IS OF BULK AT MOST 1048576: true; the input reads as it did. -/
def reportFaultsUptoRow : OpenClaim := { program := "ytmebogkhdbbbbaa", sum := "df564143aec3fddfce2681ef518ad6840a854c7d8e0427b00dc6ecbf8c8da314", func := "pascaline/pascalinelaw31.ReportFaults", spec := "reportFaults", apart := false, narrowed := true }
def ReportFaultsUptoSaid : Prop := reportFaultsUptoRow.holds Try.pinned (OpenSpec.upto reportFaultsSpec)

/-- 'pascalinelaw31.ReportPrograms', WHERE WHAT IT READS IS OF BULK AT MOST 1048576: true; the input reads as it did. -/
def reportProgramsUptoRow : OpenClaim := { program := "ytmebogkhdbbbbaa", sum := "df564143aec3fddfce2681ef518ad6840a854c7d8e0427b00dc6ecbf8c8da314", func := "pascaline/pascalinelaw31.ReportPrograms", spec := "reportPrograms", inPlace := ["internal/abi.NoEscape"], apart := false, narrowed := true }
def ReportProgramsUptoSaid : Prop := reportProgramsUptoRow.holds Try.pinned (OpenSpec.upto reportProgramsSpec)

/-- 'pascalinelaw31.ReportLists', WHERE WHAT IT READS IS OF BULK AT MOST 1048576: true; the input reads as it did. -/
def reportListsUptoRow : OpenClaim := { program := "ytmebogkhdbbbbaa", sum := "df564143aec3fddfce2681ef518ad6840a854c7d8e0427b00dc6ecbf8c8da314", func := "pascaline/pascalinelaw31.ReportLists", spec := "reportLists", inPlace := ["internal/abi.NoEscape"], unfollowed := true, recurses := true, apart := false, narrowed := true }
def ReportListsUptoSaid : Prop := reportListsUptoRow.holds Try.pinned (OpenSpec.upto reportListsSpec)

end Rows
end Go.Proofs.Ytmebogkhdbbbbaa
