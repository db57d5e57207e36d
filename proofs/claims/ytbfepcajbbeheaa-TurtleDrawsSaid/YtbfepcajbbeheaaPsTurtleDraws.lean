/- The pure statement of TurtleDraws. Written by a program of this session (wip/tools/genrow.py). -/
import Derived.Test.YtbfepcajbbeheaaPx20
import Derived.Test.YtbfepcajbbeheaaO
namespace Go.Proofs.Ytbfepcajbbeheaa.P
open Go Go.RowKit Go.Proofs.Ytbfepcajbbeheaa.O Go.Proofs.YtbfepcajbbeheaaW.PrintWords
def pascalinelaw32_TurtleDraws.Pure : Prop := ∀ (l0 : List (S72)), (l0.length ≤ 9223372036854775807 ∧ ∀ x ∈ l0, good72 x) → l0.length * 16 ≤ 140737488351232 → pascalinelaw32_TurtleDraws.f l0 = some true
end Go.Proofs.Ytbfepcajbbeheaa.P
