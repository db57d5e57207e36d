/- The pure statement of InstrBack. Written by a program of this session (wip/tools/genrow.py). -/
import Derived.Test.YtmajngcgejkghaaPx29
import Derived.Test.YtmajngcgejkghaaO
namespace Go.Proofs.Ytmajngcgejkghaa.P
open Go Go.RowKit Go.Proofs.Ytmajngcgejkghaa.O Go.Proofs.YtmajngcgejkghaaW.PrintWords
def pascalinelaw02_InstrBack.Pure : Prop := ∀ (a0_0 : Int) (a0_1 : Int) (a0_2 : Int) (a0_3 : Int) (a0_4 : Int) (a1 : Int), (Lit.int .i64 a0_0).wf = true → (Lit.int .i64 a0_1).wf = true → (Lit.int .i64 a0_2).wf = true → (Lit.int .i64 a0_3).wf = true → (Lit.int .i64 a0_4).wf = true → (Lit.int .u32 a1).wf = true → ∃ k, pascalinelaw02_InstrBack.f k a0_0 a0_1 a0_2 a0_3 a0_4 a1 = some true
end Go.Proofs.Ytmajngcgejkghaa.P
