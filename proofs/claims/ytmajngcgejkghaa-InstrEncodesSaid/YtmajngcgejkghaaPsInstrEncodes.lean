/- The pure statement of InstrEncodes. Written by a program of this session (wip/tools/genrow.py). -/
import Derived.Test.YtmajngcgejkghaaPx16
import Derived.Test.YtmajngcgejkghaaO
namespace Go.Proofs.Ytmajngcgejkghaa.P
open Go Go.RowKit Go.Proofs.Ytmajngcgejkghaa.O Go.Proofs.YtmajngcgejkghaaW.PrintWords
def pascalinelaw02_InstrEncodes.Pure : Prop := ∀ (a0_0 : Int) (a0_1 : Int) (a0_2 : Int) (a0_3 : Int) (a0_4 : Int), (Lit.int .i64 a0_0).wf = true → (Lit.int .i64 a0_1).wf = true → (Lit.int .i64 a0_2).wf = true → (Lit.int .i64 a0_3).wf = true → (Lit.int .i64 a0_4).wf = true → ∃ k, pascalinelaw02_InstrEncodes.f k a0_0 a0_1 a0_2 a0_3 a0_4 = some true
end Go.Proofs.Ytmajngcgejkghaa.P
