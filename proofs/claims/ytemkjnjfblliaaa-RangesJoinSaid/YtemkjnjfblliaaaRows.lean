/-
  No cell of these rows narrows 'for every input' (looked for: loops, veiled, ifaces, maps, wideKeys, modest, calm, conditions, laid).
  DERIVED. THE GIVEN ROWS OF THIS SEAT. 4 by the template 'for every input the law returns true; each argument reads behind the call as it read before'; 0 by the template 'total and deterministic' (their statements: YtemkjnjfblliaaaTotals.lean).
  GIVEN WITH THE SEED: the statements are not yours to turn. If you find one false, say at which input.
  Laid BY PROGRAM, IN A SANDBOX (cutbox-rows.mjs): the forced cells as the released guide's own fill.sh prints them over the translation 873e2c01d98d425b… (all of the seat's roots in one cut). By AI agents, Wed Nov 11 2026. No macro, syntax, notation, axiom, sorry.
-/
import Derived.Test.YtemkjnjfblliaaaChecked
import GoSem.Claim
import GoSem.ClaimJoined
import GoSem.ClaimMapViews
import Derived.JoinedTies
import Derived.KernelRfl
namespace Go.Proofs.Ytemkjnjfblliaaa
/- THE CELL 'sum', in the pinned program and in every row, IS THE sha256 OF THE DUMP (.gsa) THAT YtemkjnjfblliaaaProg.lean LOADS. Nothing in Lean hashes anything: it is a label: what it is worth is what the hold of that sum in a sandbox is worth. -/
noncomputable def Try.pinned : Pinned := { name := "ytemkjnjfblliaaa", sum := "873e2c01d98d425bfb800ca1697cacc88e4a6db2e45e4df1bd2b6a1e15b28cc4", checked := Try.checked }
namespace Rows
def none {H : Type} : Left H := { results := [], args := [] }

/-- 'pascalinelaw16.RangesMark': WHATEVER THE INPUT: true; the input reads as it did. -/
def rangesMarkSpec : ChangeSpec := { name := "rangesMark", fn := fun _ => fun
  | [d] => { results := [.lit (.bool true)], args := [d] }
  | _ => none }
def rangesMarkRow : OpenClaim := { program := "ytemkjnjfblliaaa", sum := "873e2c01d98d425bfb800ca1697cacc88e4a6db2e45e4df1bd2b6a1e15b28cc4", func := "pascaline/pascalinelaw16.RangesMark", spec := "rangesMark", unfollowed := true, recurses := true, apart := false }
def RangesMarkSaid : Prop := rangesMarkRow.holds Try.pinned (OpenSpec.ofChange rangesMarkSpec)

/-- ITS FALSE NEIGHBOUR: 'it returns false'. Refute it at one input. -/
def rangesMarkWrong : ChangeSpec := { name := "rangesMark", fn := fun _ => fun
  | [d] => { results := [.lit (.bool false)], args := [d] }
  | _ => none }
def RangesMarkWrongFalsely : Prop := rangesMarkRow.holds Try.pinned (OpenSpec.ofChange rangesMarkWrong)

/-- 'pascalinelaw16.RangesFound': WHATEVER THE INPUT: true; the input reads as it did. -/
def rangesFoundSpec : ChangeSpec := { name := "rangesFound", fn := fun _ => fun
  | [d] => { results := [.lit (.bool true)], args := [d] }
  | _ => none }
def rangesFoundRow : OpenClaim := { program := "ytemkjnjfblliaaa", sum := "873e2c01d98d425bfb800ca1697cacc88e4a6db2e45e4df1bd2b6a1e15b28cc4", func := "pascaline/pascalinelaw16.RangesFound", spec := "rangesFound", unfollowed := true, recurses := true, apart := false }
def RangesFoundSaid : Prop := rangesFoundRow.holds Try.pinned (OpenSpec.ofChange rangesFoundSpec)

/-- ITS FALSE NEIGHBOUR: 'it returns false'. Refute it at one input. -/
def rangesFoundWrong : ChangeSpec := { name := "rangesFound", fn := fun _ => fun
  | [d] => { results := [.lit (.bool false)], args := [d] }
  | _ => none }
def RangesFoundWrongFalsely : Prop := rangesFoundRow.holds Try.pinned (OpenSpec.ofChange rangesFoundWrong)

/-- 'pascalinelaw16.RangesTell': WHATEVER THE INPUT: true; the input reads as it did. -/
def rangesTellSpec : ChangeSpec := { name := "rangesTell", fn := fun _ => fun
  | [d1, d2, d3] => { results := [.lit (.bool true)], args := [d1, d2, d3] }
  | _ => none }
def rangesTellRow : OpenClaim := { program := "ytemkjnjfblliaaa", sum := "873e2c01d98d425bfb800ca1697cacc88e4a6db2e45e4df1bd2b6a1e15b28cc4", func := "pascaline/pascalinelaw16.RangesTell", spec := "rangesTell", unfollowed := true, recurses := true, apart := false }
def RangesTellSaid : Prop := rangesTellRow.holds Try.pinned (OpenSpec.ofChange rangesTellSpec)

/-- ITS FALSE NEIGHBOUR: 'it returns false'. Refute it at one input. -/
def rangesTellWrong : ChangeSpec := { name := "rangesTell", fn := fun _ => fun
  | [d1, d2, d3] => { results := [.lit (.bool false)], args := [d1, d2, d3] }
  | _ => none }
def RangesTellWrongFalsely : Prop := rangesTellRow.holds Try.pinned (OpenSpec.ofChange rangesTellWrong)

/-- 'pascalinelaw16.RangesJoin': WHATEVER THE INPUT: true; the input reads as it did. -/
def rangesJoinSpec : ChangeSpec := { name := "rangesJoin", fn := fun _ => fun
  | [d1, d2, d3] => { results := [.lit (.bool true)], args := [d1, d2, d3] }
  | _ => none }
def rangesJoinRow : OpenClaim := { program := "ytemkjnjfblliaaa", sum := "873e2c01d98d425bfb800ca1697cacc88e4a6db2e45e4df1bd2b6a1e15b28cc4", func := "pascaline/pascalinelaw16.RangesJoin", spec := "rangesJoin", unfollowed := true, recurses := true, apart := false }
def RangesJoinSaid : Prop := rangesJoinRow.holds Try.pinned (OpenSpec.ofChange rangesJoinSpec)

/-- ITS FALSE NEIGHBOUR: 'it returns false'. Refute it at one input. -/
def rangesJoinWrong : ChangeSpec := { name := "rangesJoin", fn := fun _ => fun
  | [d1, d2, d3] => { results := [.lit (.bool false)], args := [d1, d2, d3] }
  | _ => none }
def RangesJoinWrongFalsely : Prop := rangesJoinRow.holds Try.pinned (OpenSpec.ofChange rangesJoinWrong)

/- THE SECOND FORM. 'bulk': how many values and letters a reading holds, each counted each time it is reached (what is shared counts as often as it is met; a slice's spare places count too). A statement '..UptoSaid' is the law's where the arguments, and the package variables that the reading takes, are together of bulk at most 1048576: NARROWER than '..Said'. Prove '..Said' where nothing that the law and all that it calls make is longer than what came in: it says more and counts as full. Else prove '..UptoSaid'. A law counts once. -/
mutual
def uptoBulk {H : Type} : DataW H → Nat
  | .lit (.string bytes) => bytes.length + 1
  | .lit _ => 1
  | .nil => 1
  | .ptr d => uptoBulk d + 1
  | .slice elems spare => uptoBulkAll elems + uptoBulkAll spare + 1
  | .agg parts => uptoBulkAll parts + 1
  | .iface _ d => uptoBulk d + 1
  | .map entries => uptoBulkEntries entries + 1
  | .held _ => 1
def uptoBulkAll {H : Type} : List (DataW H) → Nat
  | [] => 0
  | d :: r => uptoBulk d + uptoBulkAll r
def uptoBulkEntries {H : Type} : List (Lit × DataW H) → Nat
  | [] => 0
  | x :: r => uptoBulkEntry x + uptoBulkEntries r
def uptoBulkEntry {H : Type} : Lit × DataW H → Nat
  | (.string bytes, d) => bytes.length + uptoBulk d + 1
  | (_, d) => uptoBulk d + 1
 end
def uptoSmall : (H : Type) → List (DataW H) → Bool := fun _ ds => decide (uptoBulkAll ds ≤ 1048576)
def OpenSpec.upto (s : _root_.Go.ChangeSpec) : _root_.Go.OpenSpec := { _root_.Go.OpenSpec.ofChange s with cond := some uptoSmall }

/-- 'pascalinelaw16.RangesMark', WHERE WHAT IT READS IS OF BULK AT MOST 1048576: true; the input reads as it did. -/
def rangesMarkUptoRow : OpenClaim := { program := "ytemkjnjfblliaaa", sum := "873e2c01d98d425bfb800ca1697cacc88e4a6db2e45e4df1bd2b6a1e15b28cc4", func := "pascaline/pascalinelaw16.RangesMark", spec := "rangesMark", unfollowed := true, recurses := true, apart := false, narrowed := true }
def RangesMarkUptoSaid : Prop := rangesMarkUptoRow.holds Try.pinned (OpenSpec.upto rangesMarkSpec)

/-- 'pascalinelaw16.RangesFound', WHERE WHAT IT READS IS OF BULK AT MOST 1048576: true; the input reads as it did. -/
def rangesFoundUptoRow : OpenClaim := { program := "ytemkjnjfblliaaa", sum := "873e2c01d98d425bfb800ca1697cacc88e4a6db2e45e4df1bd2b6a1e15b28cc4", func := "pascaline/pascalinelaw16.RangesFound", spec := "rangesFound", unfollowed := true, recurses := true, apart := false, narrowed := true }
def RangesFoundUptoSaid : Prop := rangesFoundUptoRow.holds Try.pinned (OpenSpec.upto rangesFoundSpec)

/-- 'pascalinelaw16.RangesTell', WHERE WHAT IT READS IS OF BULK AT MOST 1048576: true; the input reads as it did. -/
def rangesTellUptoRow : OpenClaim := { program := "ytemkjnjfblliaaa", sum := "873e2c01d98d425bfb800ca1697cacc88e4a6db2e45e4df1bd2b6a1e15b28cc4", func := "pascaline/pascalinelaw16.RangesTell", spec := "rangesTell", unfollowed := true, recurses := true, apart := false, narrowed := true }
def RangesTellUptoSaid : Prop := rangesTellUptoRow.holds Try.pinned (OpenSpec.upto rangesTellSpec)

/-- 'pascalinelaw16.RangesJoin', WHERE WHAT IT READS IS OF BULK AT MOST 1048576: true; the input reads as it did. -/
def rangesJoinUptoRow : OpenClaim := { program := "ytemkjnjfblliaaa", sum := "873e2c01d98d425bfb800ca1697cacc88e4a6db2e45e4df1bd2b6a1e15b28cc4", func := "pascaline/pascalinelaw16.RangesJoin", spec := "rangesJoin", unfollowed := true, recurses := true, apart := false, narrowed := true }
def RangesJoinUptoSaid : Prop := rangesJoinUptoRow.holds Try.pinned (OpenSpec.upto rangesJoinSpec)

end Rows
end Go.Proofs.Ytemkjnjfblliaaa
