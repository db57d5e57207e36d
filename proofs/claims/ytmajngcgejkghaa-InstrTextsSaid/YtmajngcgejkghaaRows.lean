/-
  No cell of these rows narrows 'for every input' (looked for: loops, veiled, ifaces, maps, wideKeys, modest, calm, conditions, laid).
  DERIVED. THE GIVEN ROWS OF THIS SEAT. 5 by the template 'for every input the law returns true; each argument reads behind the call as it read before'; 0 by the template 'total and deterministic' (their statements: YtmajngcgejkghaaTotals.lean).
  GIVEN WITH THE SEED: the statements are not yours to turn. If you find one false, say at which input.
  Laid BY PROGRAM, IN A SANDBOX (cutbox-rows.mjs): the forced cells as the released guide's own fill.sh prints them over the translation 752c2fe43086e026… (all of the seat's roots in one cut). By AI agents, Wed Nov 11 2026. No macro, syntax, notation, axiom, sorry.
-/
import Derived.Test.YtmajngcgejkghaaChecked
import GoSem.Claim
import GoSem.ClaimJoined
import GoSem.ClaimMapViews
import Derived.JoinedTies
import Derived.KernelRfl
namespace Go.Proofs.Ytmajngcgejkghaa
/- THE CELL 'sum', in the pinned program and in every row, IS THE sha256 OF THE DUMP (.gsa) THAT YtmajngcgejkghaaProg.lean LOADS. Nothing in Lean hashes anything: it is a label: what it is worth is what the hold of that sum in a sandbox is worth. -/
noncomputable def Try.pinned : Pinned := { name := "ytmajngcgejkghaa", sum := "752c2fe43086e02688de6361068a154c4108376a4aab5052bd8a500ed1c74858", checked := Try.checked }
namespace Rows
def none {H : Type} : Left H := { results := [], args := [] }

/-- 'pascalinelaw02.InstrEncodes': WHATEVER THE INPUT: true; the input reads as it did. -/
def instrEncodesSpec : ChangeSpec := { name := "instrEncodes", fn := fun _ => fun
  | [d] => { results := [.lit (.bool true)], args := [d] }
  | _ => none }
def instrEncodesRow : OpenClaim := { program := "ytmajngcgejkghaa", sum := "752c2fe43086e02688de6361068a154c4108376a4aab5052bd8a500ed1c74858", func := "pascaline/pascalinelaw02.InstrEncodes", spec := "instrEncodes", apart := false }
def InstrEncodesSaid : Prop := instrEncodesRow.holds Try.pinned (OpenSpec.ofChange instrEncodesSpec)

/-- ITS FALSE NEIGHBOUR: 'it returns false'. Refute it at one input. -/
def instrEncodesWrong : ChangeSpec := { name := "instrEncodes", fn := fun _ => fun
  | [d] => { results := [.lit (.bool false)], args := [d] }
  | _ => none }
def InstrEncodesWrongFalsely : Prop := instrEncodesRow.holds Try.pinned (OpenSpec.ofChange instrEncodesWrong)

/-- 'pascalinelaw02.InstrNames': WHATEVER THE INPUT: true; the input reads as it did. -/
def instrNamesSpec : ChangeSpec := { name := "instrNames", fn := fun _ => fun
  | [d1, d2] => { results := [.lit (.bool true)], args := [d1, d2] }
  | _ => none }
def instrNamesRow : OpenClaim := { program := "ytmajngcgejkghaa", sum := "752c2fe43086e02688de6361068a154c4108376a4aab5052bd8a500ed1c74858", func := "pascaline/pascalinelaw02.InstrNames", spec := "instrNames", apart := false }
def InstrNamesSaid : Prop := instrNamesRow.holds Try.pinned (OpenSpec.ofChange instrNamesSpec)

/-- ITS FALSE NEIGHBOUR: 'it returns false'. Refute it at one input. -/
def instrNamesWrong : ChangeSpec := { name := "instrNames", fn := fun _ => fun
  | [d1, d2] => { results := [.lit (.bool false)], args := [d1, d2] }
  | _ => none }
def InstrNamesWrongFalsely : Prop := instrNamesRow.holds Try.pinned (OpenSpec.ofChange instrNamesWrong)

/-- 'pascalinelaw02.InstrDecodes': WHATEVER THE INPUT: true; the input reads as it did. -/
def instrDecodesSpec : ChangeSpec := { name := "instrDecodes", fn := fun _ => fun
  | [d] => { results := [.lit (.bool true)], args := [d] }
  | _ => none }
def instrDecodesRow : OpenClaim := { program := "ytmajngcgejkghaa", sum := "752c2fe43086e02688de6361068a154c4108376a4aab5052bd8a500ed1c74858", func := "pascaline/pascalinelaw02.InstrDecodes", spec := "instrDecodes", apart := false }
def InstrDecodesSaid : Prop := instrDecodesRow.holds Try.pinned (OpenSpec.ofChange instrDecodesSpec)

/-- ITS FALSE NEIGHBOUR: 'it returns false'. Refute it at one input. -/
def instrDecodesWrong : ChangeSpec := { name := "instrDecodes", fn := fun _ => fun
  | [d] => { results := [.lit (.bool false)], args := [d] }
  | _ => none }
def InstrDecodesWrongFalsely : Prop := instrDecodesRow.holds Try.pinned (OpenSpec.ofChange instrDecodesWrong)

/-- 'pascalinelaw02.InstrBack': WHATEVER THE INPUT: true; the input reads as it did. -/
def instrBackSpec : ChangeSpec := { name := "instrBack", fn := fun _ => fun
  | [d1, d2] => { results := [.lit (.bool true)], args := [d1, d2] }
  | _ => none }
def instrBackRow : OpenClaim := { program := "ytmajngcgejkghaa", sum := "752c2fe43086e02688de6361068a154c4108376a4aab5052bd8a500ed1c74858", func := "pascaline/pascalinelaw02.InstrBack", spec := "instrBack", apart := false }
def InstrBackSaid : Prop := instrBackRow.holds Try.pinned (OpenSpec.ofChange instrBackSpec)

/-- ITS FALSE NEIGHBOUR: 'it returns false'. Refute it at one input. -/
def instrBackWrong : ChangeSpec := { name := "instrBack", fn := fun _ => fun
  | [d1, d2] => { results := [.lit (.bool false)], args := [d1, d2] }
  | _ => none }
def InstrBackWrongFalsely : Prop := instrBackRow.holds Try.pinned (OpenSpec.ofChange instrBackWrong)

/-- 'pascalinelaw02.InstrTexts': WHATEVER THE INPUT: true; the input reads as it did. -/
def instrTextsSpec : ChangeSpec := { name := "instrTexts", fn := fun _ => fun
  | [d1, d2, d3] => { results := [.lit (.bool true)], args := [d1, d2, d3] }
  | _ => none }
def instrTextsRow : OpenClaim := { program := "ytmajngcgejkghaa", sum := "752c2fe43086e02688de6361068a154c4108376a4aab5052bd8a500ed1c74858", func := "pascaline/pascalinelaw02.InstrTexts", spec := "instrTexts", apart := false }
def InstrTextsSaid : Prop := instrTextsRow.holds Try.pinned (OpenSpec.ofChange instrTextsSpec)

/-- ITS FALSE NEIGHBOUR: 'it returns false'. Refute it at one input. -/
def instrTextsWrong : ChangeSpec := { name := "instrTexts", fn := fun _ => fun
  | [d1, d2, d3] => { results := [.lit (.bool false)], args := [d1, d2, d3] }
  | _ => none }
def InstrTextsWrongFalsely : Prop := instrTextsRow.holds Try.pinned (OpenSpec.ofChange instrTextsWrong)

/- THE SECOND FORM. 'bulk': how many values and letters a reading holds, each counted each time it is reached (what is shared counts as often as it is met; a slice's spare places count too). A statement '..UptoSaid' is the law's where the arguments, and the package variables that the reading takes, are together of bulk at most 1048576: NARROWER than '..Said'. Prove '..Said' where nothing that the law and all that it calls make is longer than what came in: it says more and counts as full. Else prove '..UptoSaid'. A law counts once. -/
mutual
def uptoBulk {H : Type} : DataW H → Nat
  | .lit (.string bytes) => bytes.length + 1
  | .lit _ => 1
  | .nil => 1
  | .ptr d => uptoBulk d + 1
  | .slice elems spare => uptoBulkAll elems + uptoBulkAll spare + 1
  | .agg parts => uptoBulkAll parts + 1
  | .iface _ d => uptoBulk d + 1
  | .map entries => uptoBulkEntries entries + 1
  | .held _ => 1
def uptoBulkAll {H : Type} : List (DataW H) → Nat
  | [] => 0
  | d :: r => uptoBulk d + uptoBulkAll r
def uptoBulkEntries {H : Type} : List (Lit × DataW H) → Nat
  | [] => 0
  | x :: r => uptoBulkEntry x + uptoBulkEntries r
def uptoBulkEntry {H : Type} : Lit × DataW H → Nat
  | (.string bytes, d) => bytes.length + uptoBulk d + 1
  | (_, d) => uptoBulk d + 1
 end
def uptoSmall : (H : Type) → List (DataW H) → Bool := fun _ ds => decide (uptoBulkAll ds ≤ 1048576)
def OpenSpec.upto (s : _root_.Go.ChangeSpec) : _root_.Go.OpenSpec := { _root_.Go.OpenSpec.ofChange s with cond := some uptoSmall }

/-- 'pascalinelaw02.InstrEncodes', WHERE WHAT IT READS IS OF BULK AT MOST 1048576: true; the input reads as it did. -/
def instrEncodesUptoRow : OpenClaim := { program := "ytmajngcgejkghaa", sum := "752c2fe43086e02688de6361068a154c4108376a4aab5052bd8a500ed1c74858", func := "pascaline/pascalinelaw02.InstrEncodes", spec := "instrEncodes", apart := false, narrowed := true }
def InstrEncodesUptoSaid : Prop := instrEncodesUptoRow.holds Try.pinned (OpenSpec.upto instrEncodesSpec)

/-- 'pascalinelaw02.InstrNames', WHERE WHAT IT READS IS OF BULK AT MOST 1048576: true; the input reads as it did. -/
def instrNamesUptoRow : OpenClaim := { program := "ytmajngcgejkghaa", sum := "752c2fe43086e02688de6361068a154c4108376a4aab5052bd8a500ed1c74858", func := "pascaline/pascalinelaw02.InstrNames", spec := "instrNames", apart := false, narrowed := true }
def InstrNamesUptoSaid : Prop := instrNamesUptoRow.holds Try.pinned (OpenSpec.upto instrNamesSpec)

/-- 'pascalinelaw02.InstrDecodes', WHERE WHAT IT READS IS OF BULK AT MOST 1048576: true; the input reads as it did. -/
def instrDecodesUptoRow : OpenClaim := { program := "ytmajngcgejkghaa", sum := "752c2fe43086e02688de6361068a154c4108376a4aab5052bd8a500ed1c74858", func := "pascaline/pascalinelaw02.InstrDecodes", spec := "instrDecodes", apart := false, narrowed := true }
def InstrDecodesUptoSaid : Prop := instrDecodesUptoRow.holds Try.pinned (OpenSpec.upto instrDecodesSpec)

/-- 'pascalinelaw02.InstrBack', WHERE WHAT IT READS IS OF BULK AT MOST 1048576: true; the input reads as it did. -/
def instrBackUptoRow : OpenClaim := { program := "ytmajngcgejkghaa", sum := "752c2fe43086e02688de6361068a154c4108376a4aab5052bd8a500ed1c74858", func := "pascaline/pascalinelaw02.InstrBack", spec := "instrBack", apart := false, narrowed := true }
def InstrBackUptoSaid : Prop := instrBackUptoRow.holds Try.pinned (OpenSpec.upto instrBackSpec)

/-- 'pascalinelaw02.InstrTexts', WHERE WHAT IT READS IS OF BULK AT MOST 1048576: true; the input reads as it did. -/
def instrTextsUptoRow : OpenClaim := { program := "ytmajngcgejkghaa", sum := "752c2fe43086e02688de6361068a154c4108376a4aab5052bd8a500ed1c74858", func := "pascaline/pascalinelaw02.InstrTexts", spec := "instrTexts", apart := false, narrowed := true }
def InstrTextsUptoSaid : Prop := instrTextsUptoRow.holds Try.pinned (OpenSpec.upto instrTextsSpec)

end Rows
end Go.Proofs.Ytmajngcgejkghaa
