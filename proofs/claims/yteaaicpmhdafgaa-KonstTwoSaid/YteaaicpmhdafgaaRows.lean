/-
  No cell of these rows narrows 'for every input' (looked for: loops, veiled, ifaces, maps, wideKeys, modest, calm, conditions, laid).
  DERIVED. THE GIVEN ROWS OF THIS SEAT. 5 by the template 'for every input the law returns true; each argument reads behind the call as it read before'; 0 by the template 'total and deterministic' (their statements: YteaaicpmhdafgaaTotals.lean).
  GIVEN WITH THE SEED: the statements are not yours to turn. If you find one false, say at which input.
  Laid BY PROGRAM, IN A SANDBOX (cutbox-rows.mjs): the forced cells as the released guide's own fill.sh prints them over the translation f91b839c024ca74e… (all of the seat's roots in one cut). By AI agents, Wed Nov 11 2026. No macro, syntax, notation, axiom, sorry.
-/
import Derived.Test.YteaaicpmhdafgaaChecked
import GoSem.Claim
import GoSem.ClaimJoined
import GoSem.ClaimMapViews
import Derived.JoinedTies
import Derived.KernelRfl
namespace Go.Proofs.Yteaaicpmhdafgaa
/- THE CELL 'sum', in the pinned program and in every row, IS THE sha256 OF THE DUMP (.gsa) THAT YteaaicpmhdafgaaProg.lean LOADS. Nothing in Lean hashes anything: it is a label: what it is worth is what the hold of that sum in a sandbox is worth. -/
noncomputable def Try.pinned : Pinned := { name := "yteaaicpmhdafgaa", sum := "f91b839c024ca74e3fdb141db2308f026e8b170e706cde4f080eda8e51a38276", checked := Try.checked }
namespace Rows
def none {H : Type} : Left H := { results := [], args := [] }

/-- 'pascalinelaw10.KonstTwo': WHATEVER THE INPUT: true; the input reads as it did. -/
def konstTwoSpec : ChangeSpec := { name := "konstTwo", fn := fun _ => fun
  | [d1, d2, d3] => { results := [.lit (.bool true)], args := [d1, d2, d3] }
  | _ => none }
def konstTwoRow : OpenClaim := { program := "yteaaicpmhdafgaa", sum := "f91b839c024ca74e3fdb141db2308f026e8b170e706cde4f080eda8e51a38276", func := "pascaline/pascalinelaw10.KonstTwo", spec := "konstTwo", apart := false }
def KonstTwoSaid : Prop := konstTwoRow.holds Try.pinned (OpenSpec.ofChange konstTwoSpec)

/-- ITS FALSE NEIGHBOUR: 'it returns false'. Refute it at one input. -/
def konstTwoWrong : ChangeSpec := { name := "konstTwo", fn := fun _ => fun
  | [d1, d2, d3] => { results := [.lit (.bool false)], args := [d1, d2, d3] }
  | _ => none }
def KonstTwoWrongFalsely : Prop := konstTwoRow.holds Try.pinned (OpenSpec.ofChange konstTwoWrong)

/-- 'pascalinelaw10.KonstOne': WHATEVER THE INPUT: true; the input reads as it did. -/
def konstOneSpec : ChangeSpec := { name := "konstOne", fn := fun _ => fun
  | [d1, d2] => { results := [.lit (.bool true)], args := [d1, d2] }
  | _ => none }
def konstOneRow : OpenClaim := { program := "yteaaicpmhdafgaa", sum := "f91b839c024ca74e3fdb141db2308f026e8b170e706cde4f080eda8e51a38276", func := "pascaline/pascalinelaw10.KonstOne", spec := "konstOne", apart := false }
def KonstOneSaid : Prop := konstOneRow.holds Try.pinned (OpenSpec.ofChange konstOneSpec)

/-- ITS FALSE NEIGHBOUR: 'it returns false'. Refute it at one input. -/
def konstOneWrong : ChangeSpec := { name := "konstOne", fn := fun _ => fun
  | [d1, d2] => { results := [.lit (.bool false)], args := [d1, d2] }
  | _ => none }
def KonstOneWrongFalsely : Prop := konstOneRow.holds Try.pinned (OpenSpec.ofChange konstOneWrong)

/-- 'pascalinelaw10.KonstTexts': WHATEVER THE INPUT: true; the input reads as it did. -/
def konstTextsSpec : ChangeSpec := { name := "konstTexts", fn := fun _ => fun
  | [d] => { results := [.lit (.bool true)], args := [d] }
  | _ => none }
def konstTextsRow : OpenClaim := { program := "yteaaicpmhdafgaa", sum := "f91b839c024ca74e3fdb141db2308f026e8b170e706cde4f080eda8e51a38276", func := "pascaline/pascalinelaw10.KonstTexts", spec := "konstTexts", apart := false }
def KonstTextsSaid : Prop := konstTextsRow.holds Try.pinned (OpenSpec.ofChange konstTextsSpec)

/-- ITS FALSE NEIGHBOUR: 'it returns false'. Refute it at one input. -/
def konstTextsWrong : ChangeSpec := { name := "konstTexts", fn := fun _ => fun
  | [d] => { results := [.lit (.bool false)], args := [d] }
  | _ => none }
def KonstTextsWrongFalsely : Prop := konstTextsRow.holds Try.pinned (OpenSpec.ofChange konstTextsWrong)

/-- 'pascalinelaw10.KonstRight': WHATEVER THE INPUT: true; the input reads as it did. -/
def konstRightSpec : ChangeSpec := { name := "konstRight", fn := fun _ => fun
  | [d1, d2, d3] => { results := [.lit (.bool true)], args := [d1, d2, d3] }
  | _ => none }
def konstRightRow : OpenClaim := { program := "yteaaicpmhdafgaa", sum := "f91b839c024ca74e3fdb141db2308f026e8b170e706cde4f080eda8e51a38276", func := "pascaline/pascalinelaw10.KonstRight", spec := "konstRight", apart := false }
def KonstRightSaid : Prop := konstRightRow.holds Try.pinned (OpenSpec.ofChange konstRightSpec)

/-- ITS FALSE NEIGHBOUR: 'it returns false'. Refute it at one input. -/
def konstRightWrong : ChangeSpec := { name := "konstRight", fn := fun _ => fun
  | [d1, d2, d3] => { results := [.lit (.bool false)], args := [d1, d2, d3] }
  | _ => none }
def KonstRightWrongFalsely : Prop := konstRightRow.holds Try.pinned (OpenSpec.ofChange konstRightWrong)

/-- 'pascalinelaw10.KonstOrder': WHATEVER THE INPUT: true; the input reads as it did. -/
def konstOrderSpec : ChangeSpec := { name := "konstOrder", fn := fun _ => fun
  | [d1, d2] => { results := [.lit (.bool true)], args := [d1, d2] }
  | _ => none }
def konstOrderRow : OpenClaim := { program := "yteaaicpmhdafgaa", sum := "f91b839c024ca74e3fdb141db2308f026e8b170e706cde4f080eda8e51a38276", func := "pascaline/pascalinelaw10.KonstOrder", spec := "konstOrder", apart := false }
def KonstOrderSaid : Prop := konstOrderRow.holds Try.pinned (OpenSpec.ofChange konstOrderSpec)

/-- ITS FALSE NEIGHBOUR: 'it returns false'. Refute it at one input. -/
def konstOrderWrong : ChangeSpec := { name := "konstOrder", fn := fun _ => fun
  | [d1, d2] => { results := [.lit (.bool false)], args := [d1, d2] }
  | _ => none }
def KonstOrderWrongFalsely : Prop := konstOrderRow.holds Try.pinned (OpenSpec.ofChange konstOrderWrong)

/- THE SECOND FORM. 'bulk': how many values and letters a reading holds, each counted each time it is reached (what is shared counts as often as it is met; a slice's spare places count too). A statement '..UptoSaid' is the law's where the arguments, and the package variables that the reading takes, are together of bulk at most 1048576: NARROWER than '..Said'. Prove '..Said' where nothing that the law and all that it calls make is longer than what came in: it says more and counts as full. Else prove '..UptoSaid'. A law counts once. -/
mutual
def uptoBulk {H : Type} : DataW H → Nat
  | .lit (.string bytes) => bytes.length + 1
  | .lit _ => 1
  | .nil => 1
  | .ptr d => uptoBulk d + 1
  | .slice elems spare => uptoBulkAll elems + uptoBulkAll spare + 1
  | .agg parts => uptoBulkAll parts + 1
  | .iface _ d => uptoBulk d + 1
  | .map entries => uptoBulkEntries entries + 1
  | .held _ => 1
def uptoBulkAll {H : Type} : List (DataW H) → Nat
  | [] => 0
  | d :: r => uptoBulk d + uptoBulkAll r
def uptoBulkEntries {H : Type} : List (Lit × DataW H) → Nat
  | [] => 0
  | x :: r => uptoBulkEntry x + uptoBulkEntries r
def uptoBulkEntry {H : Type} : Lit × DataW H → Nat
  | (.string bytes, d) => bytes.length + uptoBulk d + 1
  | (_, d) => uptoBulk d + 1
 end
def uptoSmall : (H : Type) → List (DataW H) → Bool := fun _ ds => decide (uptoBulkAll ds ≤ 1048576)
def OpenSpec.upto (s : _root_.Go.ChangeSpec) : _root_.Go.OpenSpec := { _root_.Go.OpenSpec.ofChange s with cond := some uptoSmall }

/-- 'pascalinelaw10.KonstTwo', WHERE WHAT IT READS IS OF BULK AT MOST 1048576: true; the input reads as it did. -/
def konstTwoUptoRow : OpenClaim := { program := "yteaaicpmhdafgaa", sum := "f91b839c024ca74e3fdb141db2308f026e8b170e706cde4f080eda8e51a38276", func := "pascaline/pascalinelaw10.KonstTwo", spec := "konstTwo", apart := false, narrowed := true }
def KonstTwoUptoSaid : Prop := konstTwoUptoRow.holds Try.pinned (OpenSpec.upto konstTwoSpec)

/-- 'pascalinelaw10.KonstOne', WHERE WHAT IT READS IS OF BULK AT MOST 1048576: true; the input reads as it did. -/
def konstOneUptoRow : OpenClaim := { program := "yteaaicpmhdafgaa", sum := "f91b839c024ca74e3fdb141db2308f026e8b170e706cde4f080eda8e51a38276", func := "pascaline/pascalinelaw10.KonstOne", spec := "konstOne", apart := false, narrowed := true }
def KonstOneUptoSaid : Prop := konstOneUptoRow.holds Try.pinned (OpenSpec.upto konstOneSpec)

/-- 'pascalinelaw10.KonstTexts', WHERE WHAT IT READS IS OF BULK AT MOST 1048576: true; the input reads as it did. -/
def konstTextsUptoRow : OpenClaim := { program := "yteaaicpmhdafgaa", sum := "f91b839c024ca74e3fdb141db2308f026e8b170e706cde4f080eda8e51a38276", func := "pascaline/pascalinelaw10.KonstTexts", spec := "konstTexts", apart := false, narrowed := true }
def KonstTextsUptoSaid : Prop := konstTextsUptoRow.holds Try.pinned (OpenSpec.upto konstTextsSpec)

/-- 'pascalinelaw10.KonstRight', WHERE WHAT IT READS IS OF BULK AT MOST 1048576: true; the input reads as it did. -/
def konstRightUptoRow : OpenClaim := { program := "yteaaicpmhdafgaa", sum := "f91b839c024ca74e3fdb141db2308f026e8b170e706cde4f080eda8e51a38276", func := "pascaline/pascalinelaw10.KonstRight", spec := "konstRight", apart := false, narrowed := true }
def KonstRightUptoSaid : Prop := konstRightUptoRow.holds Try.pinned (OpenSpec.upto konstRightSpec)

/-- 'pascalinelaw10.KonstOrder', WHERE WHAT IT READS IS OF BULK AT MOST 1048576: true; the input reads as it did. -/
def konstOrderUptoRow : OpenClaim := { program := "yteaaicpmhdafgaa", sum := "f91b839c024ca74e3fdb141db2308f026e8b170e706cde4f080eda8e51a38276", func := "pascaline/pascalinelaw10.KonstOrder", spec := "konstOrder", apart := false, narrowed := true }
def KonstOrderUptoSaid : Prop := konstOrderUptoRow.holds Try.pinned (OpenSpec.upto konstOrderSpec)

end Rows
end Go.Proofs.Yteaaicpmhdafgaa
