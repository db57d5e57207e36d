/- The pure statement of RangesFound. Written by a program of this session (wip/tools/genrow.py). -/
import Derived.Test.YtemkjnjfblliaaaPx11
import Derived.Test.YtemkjnjfblliaaaO
namespace Go.Proofs.Ytemkjnjfblliaaa.P
open Go Go.RowKit Go.Proofs.Ytemkjnjfblliaaa.O Go.Proofs.YtemkjnjfblliaaaW.PrintWords
def pascalinelaw16_RangesFound.Pure : Prop := ∀ (l0 : List (S29)), (l0.length ≤ 9223372036854775807 ∧ ∀ x ∈ l0, good29 x) → l0.length * 16 ≤ 140737488351232 → ∃ k, pascalinelaw16_RangesFound.f k l0 = some true
end Go.Proofs.Ytemkjnjfblliaaa.P
