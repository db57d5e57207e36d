/- The pure statement of ReportFaults. Written by a program of this session (wip/tools/genrow.py). -/
import Derived.Test.YtmebogkhdbbbbaaPx16
import Derived.Test.YtmebogkhdbbbbaaO
namespace Go.Proofs.Ytmebogkhdbbbbaa.P
open Go Go.RowKit Go.Proofs.Ytmebogkhdbbbbaa.O Go.Proofs.YtmebogkhdbbbbaaW.PrintWords
def pascalinelaw31_ReportFaults.Pure : Prop := ∀ (l0 : List ByteArray) (a1_0 : Int) (a1_1 : Int) (a1_2 : Int) (a2 : Int), (l0.length ≤ 9223372036854775807 ∧ ∀ x ∈ l0, x.size ≤ 9223372036854775807) → (Lit.int .i64 a1_0).wf = true → (Lit.int .i64 a1_1).wf = true → (Lit.int .i64 a1_2).wf = true → (Lit.int .i64 a2).wf = true → l0.length * 16 ≤ 140737488351232 → ∃ k, pascalinelaw31_ReportFaults.f k l0 a1_0 a1_1 a1_2 a2 = some true
end Go.Proofs.Ytmebogkhdbbbbaa.P
