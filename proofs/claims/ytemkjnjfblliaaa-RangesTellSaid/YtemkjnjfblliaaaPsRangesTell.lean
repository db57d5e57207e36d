/- The pure statement of RangesTell. Written by a program of this session (wip/tools/genrow.py). -/
import Derived.Test.YtemkjnjfblliaaaPx13
import Derived.Test.YtemkjnjfblliaaaO
namespace Go.Proofs.Ytemkjnjfblliaaa.P
open Go Go.RowKit Go.Proofs.Ytemkjnjfblliaaa.O Go.Proofs.YtemkjnjfblliaaaW.PrintWords
def pascalinelaw16_RangesTell.Pure : Prop := ∀ (l0 : List (S29)) (a1 : Int) (a2 : Int), (l0.length ≤ 9223372036854775807 ∧ ∀ x ∈ l0, good29 x) → (Lit.int .i64 a1).wf = true → (Lit.int .i64 a2).wf = true → l0.length * 16 ≤ 140737488351232 → ∃ k, pascalinelaw16_RangesTell.f k l0 a1 a2 = some true
end Go.Proofs.Ytemkjnjfblliaaa.P
