/- The pure statement of ReportLists. Written by a program of this session (wip/tools/genrow.py). -/
import Derived.Test.YtmebogkhdbbbbaaPx54
import Derived.Test.YtmebogkhdbbbbaaO
namespace Go.Proofs.Ytmebogkhdbbbbaa.P
open Go Go.RowKit Go.Proofs.Ytmebogkhdbbbbaa.O Go.Proofs.YtmebogkhdbbbbaaW.PrintWords
def pascalinelaw31_ReportLists.Pure : Prop := ∀ (a0_0 : Int) (a0_1 : Int) (a0_2 : Int) (a0_3 : Int) (a0_4 : Int) (l0_5 : List Int) (l0_6 : List Int) (a0_7 : Int) (a0_8 : Int) (a0_9 : Int) (a0_10 : Int) (l0_11 : List (S49)) (a1 : ByteArray), (Lit.int .u32 a0_0).wf = true → (Lit.int .u32 a0_1).wf = true → (Lit.int .u32 a0_2).wf = true → (Lit.int .u32 a0_3).wf = true → (Lit.int .u32 a0_4).wf = true → (l0_5.length ≤ 9223372036854775807 ∧ ∀ x ∈ l0_5, (Lit.int .u32 x).wf = true) → (l0_6.length ≤ 9223372036854775807 ∧ ∀ x ∈ l0_6, (Lit.int .u32 x).wf = true) → (Lit.int .u32 a0_7).wf = true → (Lit.int .u32 a0_8).wf = true → (Lit.int .u32 a0_9).wf = true → (Lit.int .u32 a0_10).wf = true → (l0_11.length ≤ 9223372036854775807 ∧ ∀ x ∈ l0_11, good49 x) → a1.size ≤ 140737488351232 → ∃ k, pascalinelaw31_ReportLists.f k a0_0 a0_1 a0_2 a0_3 a0_4 l0_5 l0_6 a0_7 a0_8 a0_9 a0_10 l0_11 a1 = some true
end Go.Proofs.Ytmebogkhdbbbbaa.P
