/- The pure statement of ScopeFinds, where the bulk is small. Written by a program of this session (wip/tools/genrowu.py). -/
import Derived.Test.YtkgjpelddncfdaaPx31
import Derived.Test.YtkgjpelddncfdaaU
namespace Go.Proofs.Ytkgjpelddncfdaa.P
open Go Go.RowKit Go.Proofs.Ytkgjpelddncfdaa.O Go.Proofs.YtkgjpelddncfdaaW.PrintWords
def pascalinelaw11_ScopeFinds.PureU : Prop := ∀ (l0 : List (S57)) (a1 : ByteArray) (a2 : Int), (l0.length ≤ 1048576 ∧ ∀ x ∈ l0, goodU57 x) → a1.size ≤ 1048576 → (Lit.int .i64 a2).wf = true → pascalinelaw11_ScopeFinds.f l0 a1 a2 = some true
end Go.Proofs.Ytkgjpelddncfdaa.P
