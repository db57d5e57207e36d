/- The pure statement of TurtleBack. Written by a program of this session (wip/tools/genrow.py). -/
import Derived.Test.YtbfepcajbbeheaaPx21
import Derived.Test.YtbfepcajbbeheaaO
namespace Go.Proofs.Ytbfepcajbbeheaa.P
open Go Go.RowKit Go.Proofs.Ytbfepcajbbeheaa.O Go.Proofs.YtbfepcajbbeheaaW.PrintWords
def pascalinelaw32_TurtleBack.Pure : Prop := ∀ (l0 : List (S33)) (a1 : Int) (a2 : Int), (l0.length ≤ 9223372036854775807 ∧ ∀ x ∈ l0, good33 x) → (Lit.int .i32 a1).wf = true → (Lit.int .i32 a2).wf = true → l0.length * 8 ≤ 140737488351232 → pascalinelaw32_TurtleBack.f l0 a1 a2 = some true
end Go.Proofs.Ytbfepcajbbeheaa.P
