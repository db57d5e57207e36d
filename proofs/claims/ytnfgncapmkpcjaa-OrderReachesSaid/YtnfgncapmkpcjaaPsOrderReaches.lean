/- The pure statement of OrderReaches. Written by a program of this session (wip/tools/genrow.py). -/
import Derived.Test.YtnfgncapmkpcjaaPx19
import Derived.Test.YtnfgncapmkpcjaaO
namespace Go.Proofs.Ytnfgncapmkpcjaa.P
open Go Go.RowKit Go.Proofs.Ytnfgncapmkpcjaa.O Go.Proofs.YtnfgncapmkpcjaaW.PrintWords
def pascalinelaw25_OrderReaches.Pure : Prop := ∀ (l0 : List (S41)) (a1 : ByteArray), (l0.length ≤ 9223372036854775807 ∧ ∀ x ∈ l0, good41 x) → a1.size ≤ 140737488351232 → l0.length * 40 ≤ 140737488351232 → ∃ k, pascalinelaw25_OrderReaches.f k l0 a1 = some true
end Go.Proofs.Ytnfgncapmkpcjaa.P
