/- The pure statement of ReportPrograms, where the bulk is small. Written by a program of this session (wip/tools/genrowu.py). -/
import Derived.Test.YtmebogkhdbbbbaaPx22
import Derived.Test.YtmebogkhdbbbbaaU
namespace Go.Proofs.Ytmebogkhdbbbbaa.P
open Go Go.RowKit Go.Proofs.Ytmebogkhdbbbbaa.O Go.Proofs.YtmebogkhdbbbbaaW.PrintWords
def pascalinelaw31_ReportPrograms.PureU : Prop := ∀ (a0_0 : Int) (a0_1 : Int) (a0_2 : Int) (a0_3 : Int) (a0_4 : Int) (l0_5 : List Int) (l0_6 : List Int) (a0_7 : Int) (a0_8 : Int) (a0_9 : Int) (a0_10 : Int) (l0_11 : List (S49)) (l1 : List Int) (l2 : List (S46)), (Lit.int .u32 a0_0).wf = true → (Lit.int .u32 a0_1).wf = true → (Lit.int .u32 a0_2).wf = true → (Lit.int .u32 a0_3).wf = true → (Lit.int .u32 a0_4).wf = true → (l0_5.length ≤ 1048576 ∧ ∀ x ∈ l0_5, (Lit.int .u32 x).wf = true) → (l0_6.length ≤ 1048576 ∧ ∀ x ∈ l0_6, (Lit.int .u32 x).wf = true) → (Lit.int .u32 a0_7).wf = true → (Lit.int .u32 a0_8).wf = true → (Lit.int .u32 a0_9).wf = true → (Lit.int .u32 a0_10).wf = true → (l0_11.length ≤ 1048576 ∧ ∀ x ∈ l0_11, goodU49 x) → (l1.length ≤ 1048576 ∧ ∀ x ∈ l1, (Lit.int .i64 x).wf = true) → (l2.length ≤ 1048576 ∧ ∀ x ∈ l2, goodU46 x) → pascalinelaw31_ReportPrograms.f a0_0 a0_1 a0_2 a0_3 a0_4 l0_5 l0_6 a0_7 a0_8 a0_9 a0_10 l0_11 l1 l2 = some true
end Go.Proofs.Ytmebogkhdbbbbaa.P
