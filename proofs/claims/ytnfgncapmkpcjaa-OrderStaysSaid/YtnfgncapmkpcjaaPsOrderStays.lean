/- The pure statement of OrderStays. Written by a program of this session (wip/tools/genrow.py). -/
import Derived.Test.YtnfgncapmkpcjaaPx17
import Derived.Test.YtnfgncapmkpcjaaO
namespace Go.Proofs.Ytnfgncapmkpcjaa.P
open Go Go.RowKit Go.Proofs.Ytnfgncapmkpcjaa.O Go.Proofs.YtnfgncapmkpcjaaW.PrintWords
def pascalinelaw25_OrderStays.Pure : Prop := ∀ (l0 : List (S41)), (l0.length ≤ 9223372036854775807 ∧ ∀ x ∈ l0, good41 x) → l0.length * 40 ≤ 140737488351232 → ∃ k, pascalinelaw25_OrderStays.f k l0 = some true
end Go.Proofs.Ytnfgncapmkpcjaa.P
