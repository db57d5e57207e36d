/- The pure statement of TurtleMeasures. Written by a program of this session (wip/tools/genrow.py). -/
import Derived.Test.YtbfepcajbbeheaaPx27
import Derived.Test.YtbfepcajbbeheaaO
namespace Go.Proofs.Ytbfepcajbbeheaa.P
open Go Go.RowKit Go.Proofs.Ytbfepcajbbeheaa.O Go.Proofs.YtbfepcajbbeheaaW.PrintWords
def pascalinelaw32_TurtleMeasures.Pure : Prop := ∀ (l0 : List (S33)), (l0.length ≤ 9223372036854775807 ∧ ∀ x ∈ l0, good33 x) → l0.length * 8 ≤ 140737488351232 → pascalinelaw32_TurtleMeasures.f l0 = some true
end Go.Proofs.Ytbfepcajbbeheaa.P
