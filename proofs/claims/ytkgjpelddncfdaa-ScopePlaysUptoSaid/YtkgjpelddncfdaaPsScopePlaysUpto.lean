/- The pure statement of ScopePlays, where the bulk is small. Written by a program of this session (wip/tools/genrowu.py). -/
import Derived.Test.YtkgjpelddncfdaaPx29
import Derived.Test.YtkgjpelddncfdaaU
namespace Go.Proofs.Ytkgjpelddncfdaa.P
open Go Go.RowKit Go.Proofs.Ytkgjpelddncfdaa.O Go.Proofs.YtkgjpelddncfdaaW.PrintWords
def pascalinelaw11_ScopePlays.PureU : Prop := ∀ (l0 : List (S57)), (l0.length ≤ 1048576 ∧ ∀ x ∈ l0, goodU57 x) → pascalinelaw11_ScopePlays.f l0 = some true
end Go.Proofs.Ytkgjpelddncfdaa.P
