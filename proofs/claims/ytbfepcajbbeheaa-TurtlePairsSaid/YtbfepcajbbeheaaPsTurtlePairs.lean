/- The pure statement of TurtlePairs. Written by a program of this session (wip/tools/genrow.py). -/
import Derived.Test.YtbfepcajbbeheaaPx22
import Derived.Test.YtbfepcajbbeheaaO
namespace Go.Proofs.Ytbfepcajbbeheaa.P
open Go Go.RowKit Go.Proofs.Ytbfepcajbbeheaa.O Go.Proofs.YtbfepcajbbeheaaW.PrintWords
def pascalinelaw32_TurtlePairs.Pure : Prop := ∀ (l0 : List Int) (a1 : Int), (l0.length ≤ 9223372036854775807 ∧ ∀ x ∈ l0, (Lit.int .i32 x).wf = true) → (Lit.int .u8 a1).wf = true → l0.length * 4 ≤ 140737488351232 → pascalinelaw32_TurtlePairs.f l0 a1 = some true
end Go.Proofs.Ytbfepcajbbeheaa.P
