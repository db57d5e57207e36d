/-
  No cell of these rows narrows 'for every input' (looked for: loops, veiled, ifaces, maps, wideKeys, modest, calm, conditions, laid).
  DERIVED. THE GIVEN ROWS OF THIS SEAT. 5 by the template 'for every input the law returns true; each argument reads behind the call as it read before'; 0 by the template 'total and deterministic' (their statements: YtbfepcajbbeheaaTotals.lean).
  GIVEN WITH THE SEED: the statements are not yours to turn. If you find one false, say at which input.
  Laid BY PROGRAM, IN A SANDBOX (cutbox-rows.mjs): the forced cells as the released guide's own fill.sh prints them over the translation c92e641585117041… (all of the seat's roots in one cut). By AI agents, Wed Nov 11 2026. No macro, syntax, notation, axiom, sorry.
-/
import Derived.Test.YtbfepcajbbeheaaChecked
import GoSem.Claim
import GoSem.ClaimJoined
import GoSem.ClaimMapViews
import Derived.JoinedTies
import Derived.KernelRfl
namespace Go.Proofs.Ytbfepcajbbeheaa
/- THE CELL 'sum', in the pinned program and in every row, IS THE sha256 OF THE DUMP (.gsa) THAT YtbfepcajbbeheaaProg.lean LOADS. Nothing in Lean hashes anything: it is a label: what it is worth is what the hold of that sum in a sandbox is worth. -/
noncomputable def Try.pinned : Pinned := { name := "ytbfepcajbbeheaa", sum := "c92e6415851170416f9e8219b99f1c8f98c2df37f4d3e9d2ea119f84879f6604", checked := Try.checked }
namespace Rows
def none {H : Type} : Left H := { results := [], args := [] }

/-- 'pascalinelaw32.TurtleDoes': WHATEVER THE INPUT: true; the input reads as it did. -/
def turtleDoesSpec : ChangeSpec := { name := "turtleDoes", fn := fun _ => fun
  | [d] => { results := [.lit (.bool true)], args := [d] }
  | _ => none }
def turtleDoesRow : OpenClaim := { program := "ytbfepcajbbeheaa", sum := "c92e6415851170416f9e8219b99f1c8f98c2df37f4d3e9d2ea119f84879f6604", func := "pascaline/pascalinelaw32.TurtleDoes", spec := "turtleDoes", inPlace := ["internal/abi.NoEscape"], unfollowed := true, recurses := true, apart := false }
def TurtleDoesSaid : Prop := turtleDoesRow.holds Try.pinned (OpenSpec.ofChange turtleDoesSpec)

/-- ITS FALSE NEIGHBOUR: 'it returns false'. Refute it at one input. -/
def turtleDoesWrong : ChangeSpec := { name := "turtleDoes", fn := fun _ => fun
  | [d] => { results := [.lit (.bool false)], args := [d] }
  | _ => none }
def TurtleDoesWrongFalsely : Prop := turtleDoesRow.holds Try.pinned (OpenSpec.ofChange turtleDoesWrong)

/-- 'pascalinelaw32.TurtleDraws': WHATEVER THE INPUT: true; the input reads as it did. -/
def turtleDrawsSpec : ChangeSpec := { name := "turtleDraws", fn := fun _ => fun
  | [d] => { results := [.lit (.bool true)], args := [d] }
  | _ => none }
def turtleDrawsRow : OpenClaim := { program := "ytbfepcajbbeheaa", sum := "c92e6415851170416f9e8219b99f1c8f98c2df37f4d3e9d2ea119f84879f6604", func := "pascaline/pascalinelaw32.TurtleDraws", spec := "turtleDraws", inPlace := ["internal/abi.NoEscape"], unfollowed := true, recurses := true, apart := false }
def TurtleDrawsSaid : Prop := turtleDrawsRow.holds Try.pinned (OpenSpec.ofChange turtleDrawsSpec)

/-- ITS FALSE NEIGHBOUR: 'it returns false'. Refute it at one input. -/
def turtleDrawsWrong : ChangeSpec := { name := "turtleDraws", fn := fun _ => fun
  | [d] => { results := [.lit (.bool false)], args := [d] }
  | _ => none }
def TurtleDrawsWrongFalsely : Prop := turtleDrawsRow.holds Try.pinned (OpenSpec.ofChange turtleDrawsWrong)

/-- 'pascalinelaw32.TurtleBack': WHATEVER THE INPUT: true; the input reads as it did. -/
def turtleBackSpec : ChangeSpec := { name := "turtleBack", fn := fun _ => fun
  | [d1, d2, d3] => { results := [.lit (.bool true)], args := [d1, d2, d3] }
  | _ => none }
def turtleBackRow : OpenClaim := { program := "ytbfepcajbbeheaa", sum := "c92e6415851170416f9e8219b99f1c8f98c2df37f4d3e9d2ea119f84879f6604", func := "pascaline/pascalinelaw32.TurtleBack", spec := "turtleBack", inPlace := ["internal/abi.NoEscape"], unfollowed := true, recurses := true, apart := false }
def TurtleBackSaid : Prop := turtleBackRow.holds Try.pinned (OpenSpec.ofChange turtleBackSpec)

/-- ITS FALSE NEIGHBOUR: 'it returns false'. Refute it at one input. -/
def turtleBackWrong : ChangeSpec := { name := "turtleBack", fn := fun _ => fun
  | [d1, d2, d3] => { results := [.lit (.bool false)], args := [d1, d2, d3] }
  | _ => none }
def TurtleBackWrongFalsely : Prop := turtleBackRow.holds Try.pinned (OpenSpec.ofChange turtleBackWrong)

/-- 'pascalinelaw32.TurtlePairs': WHATEVER THE INPUT: true; the input reads as it did. -/
def turtlePairsSpec : ChangeSpec := { name := "turtlePairs", fn := fun _ => fun
  | [d1, d2] => { results := [.lit (.bool true)], args := [d1, d2] }
  | _ => none }
def turtlePairsRow : OpenClaim := { program := "ytbfepcajbbeheaa", sum := "c92e6415851170416f9e8219b99f1c8f98c2df37f4d3e9d2ea119f84879f6604", func := "pascaline/pascalinelaw32.TurtlePairs", spec := "turtlePairs", inPlace := ["internal/abi.NoEscape"], unfollowed := true, recurses := true, apart := false }
def TurtlePairsSaid : Prop := turtlePairsRow.holds Try.pinned (OpenSpec.ofChange turtlePairsSpec)

/-- ITS FALSE NEIGHBOUR: 'it returns false'. Refute it at one input. -/
def turtlePairsWrong : ChangeSpec := { name := "turtlePairs", fn := fun _ => fun
  | [d1, d2] => { results := [.lit (.bool false)], args := [d1, d2] }
  | _ => none }
def TurtlePairsWrongFalsely : Prop := turtlePairsRow.holds Try.pinned (OpenSpec.ofChange turtlePairsWrong)

/-- 'pascalinelaw32.TurtleMeasures': WHATEVER THE INPUT: true; the input reads as it did. -/
def turtleMeasuresSpec : ChangeSpec := { name := "turtleMeasures", fn := fun _ => fun
  | [d] => { results := [.lit (.bool true)], args := [d] }
  | _ => none }
def turtleMeasuresRow : OpenClaim := { program := "ytbfepcajbbeheaa", sum := "c92e6415851170416f9e8219b99f1c8f98c2df37f4d3e9d2ea119f84879f6604", func := "pascaline/pascalinelaw32.TurtleMeasures", spec := "turtleMeasures", inPlace := ["internal/abi.NoEscape"], unfollowed := true, recurses := true, apart := false }
def TurtleMeasuresSaid : Prop := turtleMeasuresRow.holds Try.pinned (OpenSpec.ofChange turtleMeasuresSpec)

/-- ITS FALSE NEIGHBOUR: 'it returns false'. Refute it at one input. -/
def turtleMeasuresWrong : ChangeSpec := { name := "turtleMeasures", fn := fun _ => fun
  | [d] => { results := [.lit (.bool false)], args := [d] }
  | _ => none }
def TurtleMeasuresWrongFalsely : Prop := turtleMeasuresRow.holds Try.pinned (OpenSpec.ofChange turtleMeasuresWrong)

/- THE SECOND FORM. 'bulk': how many values and letters a reading holds, each counted each time it is reached (what is shared counts as often as it is met; a slice's spare places count too). A statement '..UptoSaid' is the law's where the arguments, and the package variables that the reading takes, are together of bulk at most 1048576: NARROWER than '..Said'. Prove '..Said' where nothing that the law and all that it calls make is longer than what came in: it says more and counts as full. Else prove '..UptoSaid'. A law counts once. -/
mutual
def uptoBulk {H : Type} : DataW H → Nat
  | .lit (.string bytes) => bytes.length + 1
  | .lit _ => 1
  | .nil => 1
  | .ptr d => uptoBulk d + 1
  | .slice elems spare => uptoBulkAll elems + uptoBulkAll spare + 1
  | .agg parts => uptoBulkAll parts + 1
  | .iface _ d => uptoBulk d + 1
  | .map entries => uptoBulkEntries entries + 1
  | .held _ => 1
def uptoBulkAll {H : Type} : List (DataW H) → Nat
  | [] => 0
  | d :: r => uptoBulk d + uptoBulkAll r
def uptoBulkEntries {H : Type} : List (Lit × DataW H) → Nat
  | [] => 0
  | x :: r => uptoBulkEntry x + uptoBulkEntries r
def uptoBulkEntry {H : Type} : Lit × DataW H → Nat
  | (.string bytes, d) => bytes.length + uptoBulk d + 1
  | (_, d) => uptoBulk d + 1
 end
def uptoSmall : (H : Type) → List (DataW H) → Bool := fun _ ds => decide (uptoBulkAll ds ≤ 1048576)
def OpenSpec.upto (s : _root_.Go.ChangeSpec) : _root_.Go.OpenSpec := { _root_.Go.OpenSpec.ofChange s with cond := some uptoSmall }

/-- 'pascalinelaw32.TurtleDoes', WHERE WHAT IT READS IS OF BULK AT MOST 1048576: true; the input reads as it did. -/
def turtleDoesUptoRow : OpenClaim := { program := "ytbfepcajbbeheaa", sum := "c92e6415851170416f9e8219b99f1c8f98c2df37f4d3e9d2ea119f84879f6604", func := "pascaline/pascalinelaw32.TurtleDoes", spec := "turtleDoes", inPlace := ["internal/abi.NoEscape"], unfollowed := true, recurses := true, apart := false, narrowed := true }
def TurtleDoesUptoSaid : Prop := turtleDoesUptoRow.holds Try.pinned (OpenSpec.upto turtleDoesSpec)

/-- 'pascalinelaw32.TurtleDraws', WHERE WHAT IT READS IS OF BULK AT MOST 1048576: true; the input reads as it did. -/
def turtleDrawsUptoRow : OpenClaim := { program := "ytbfepcajbbeheaa", sum := "c92e6415851170416f9e8219b99f1c8f98c2df37f4d3e9d2ea119f84879f6604", func := "pascaline/pascalinelaw32.TurtleDraws", spec := "turtleDraws", inPlace := ["internal/abi.NoEscape"], unfollowed := true, recurses := true, apart := false, narrowed := true }
def TurtleDrawsUptoSaid : Prop := turtleDrawsUptoRow.holds Try.pinned (OpenSpec.upto turtleDrawsSpec)

/-- 'pascalinelaw32.TurtleBack', WHERE WHAT IT READS IS OF BULK AT MOST 1048576: true; the input reads as it did. -/
def turtleBackUptoRow : OpenClaim := { program := "ytbfepcajbbeheaa", sum := "c92e6415851170416f9e8219b99f1c8f98c2df37f4d3e9d2ea119f84879f6604", func := "pascaline/pascalinelaw32.TurtleBack", spec := "turtleBack", inPlace := ["internal/abi.NoEscape"], unfollowed := true, recurses := true, apart := false, narrowed := true }
def TurtleBackUptoSaid : Prop := turtleBackUptoRow.holds Try.pinned (OpenSpec.upto turtleBackSpec)

/-- 'pascalinelaw32.TurtlePairs', WHERE WHAT IT READS IS OF BULK AT MOST 1048576: true; the input reads as it did. -/
def turtlePairsUptoRow : OpenClaim := { program := "ytbfepcajbbeheaa", sum := "c92e6415851170416f9e8219b99f1c8f98c2df37f4d3e9d2ea119f84879f6604", func := "pascaline/pascalinelaw32.TurtlePairs", spec := "turtlePairs", inPlace := ["internal/abi.NoEscape"], unfollowed := true, recurses := true, apart := false, narrowed := true }
def TurtlePairsUptoSaid : Prop := turtlePairsUptoRow.holds Try.pinned (OpenSpec.upto turtlePairsSpec)

/-- 'pascalinelaw32.TurtleMeasures', WHERE WHAT IT READS IS OF BULK AT MOST 1048576: true; the input reads as it did. -/
def turtleMeasuresUptoRow : OpenClaim := { program := "ytbfepcajbbeheaa", sum := "c92e6415851170416f9e8219b99f1c8f98c2df37f4d3e9d2ea119f84879f6604", func := "pascaline/pascalinelaw32.TurtleMeasures", spec := "turtleMeasures", inPlace := ["internal/abi.NoEscape"], unfollowed := true, recurses := true, apart := false, narrowed := true }
def TurtleMeasuresUptoSaid : Prop := turtleMeasuresUptoRow.holds Try.pinned (OpenSpec.upto turtleMeasuresSpec)

end Rows
end Go.Proofs.Ytbfepcajbbeheaa
