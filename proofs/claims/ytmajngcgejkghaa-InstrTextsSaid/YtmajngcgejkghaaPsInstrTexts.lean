/- The pure statement of InstrTexts. Written by a program of this session (wip/tools/genrow.py). -/
import Derived.Test.YtmajngcgejkghaaPx43
import Derived.Test.YtmajngcgejkghaaO
namespace Go.Proofs.Ytmajngcgejkghaa.P
open Go Go.RowKit Go.Proofs.Ytmajngcgejkghaa.O Go.Proofs.YtmajngcgejkghaaW.PrintWords
def pascalinelaw02_InstrTexts.Pure : Prop := ∀ (a0_0 : Int) (a0_1 : Int) (a0_2 : Int) (a0_3 : Int) (a0_4 : Int) (a1 : Int) (l2 : List ByteArray), (Lit.int .i64 a0_0).wf = true → (Lit.int .i64 a0_1).wf = true → (Lit.int .i64 a0_2).wf = true → (Lit.int .i64 a0_3).wf = true → (Lit.int .i64 a0_4).wf = true → (Lit.int .i64 a1).wf = true → (l2.length ≤ 9223372036854775807 ∧ ∀ x ∈ l2, x.size ≤ 9223372036854775807) → l2.length * 16 ≤ 140737488351232 → ∃ k, pascalinelaw02_InstrTexts.f k a0_0 a0_1 a0_2 a0_3 a0_4 a1 l2 = some true
end Go.Proofs.Ytmajngcgejkghaa.P
