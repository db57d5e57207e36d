/- The pure statement of RangesJoin. Written by a program of this session (wip/tools/genrow.py). -/
import Derived.Test.YtemkjnjfblliaaaPx20
import Derived.Test.YtemkjnjfblliaaaO
namespace Go.Proofs.Ytemkjnjfblliaaa.P
open Go Go.RowKit Go.Proofs.Ytemkjnjfblliaaa.O Go.Proofs.YtemkjnjfblliaaaW.PrintWords
def pascalinelaw16_RangesJoin.Pure : Prop := ∀ (l0 : List (S29)) (l1 : List (S29)) (a2_0 : Int) (a2_1 : Int), (l0.length ≤ 9223372036854775807 ∧ ∀ x ∈ l0, good29 x) → (l1.length ≤ 9223372036854775807 ∧ ∀ x ∈ l1, good29 x) → (Lit.int .i64 a2_0).wf = true → (Lit.int .i64 a2_1).wf = true → l0.length * 16 ≤ 140737488351232 → l1.length * 16 ≤ 140737488351232 → ∃ k, pascalinelaw16_RangesJoin.f k l0 l1 a2_0 a2_1 = some true
end Go.Proofs.Ytemkjnjfblliaaa.P
