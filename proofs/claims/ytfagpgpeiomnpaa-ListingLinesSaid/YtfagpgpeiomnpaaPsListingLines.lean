/- The pure statement of ListingLines. Written by a program of this session (wip/tools/genrow.py). -/
import Derived.Test.YtfagpgpeiomnpaaPx24
import Derived.Test.YtfagpgpeiomnpaaO
namespace Go.Proofs.Ytfagpgpeiomnpaa.P
open Go Go.RowKit Go.Proofs.Ytfagpgpeiomnpaa.O Go.Proofs.YtfagpgpeiomnpaaW.PrintWords
def pascalinelaw06_ListingLines.Pure : Prop := ∀ (a0 : Int) (a1 : Int) (a2_0 : Int) (a2_1 : Int) (a2_2 : Int) (a2_3 : Int) (a2_4 : Int), (Lit.int .u32 a0).wf = true → (Lit.int .u32 a1).wf = true → (Lit.int .i64 a2_0).wf = true → (Lit.int .i64 a2_1).wf = true → (Lit.int .i64 a2_2).wf = true → (Lit.int .i64 a2_3).wf = true → (Lit.int .i64 a2_4).wf = true → ∃ k, pascalinelaw06_ListingLines.f k a0 a1 a2_0 a2_1 a2_2 a2_3 a2_4 = some true
end Go.Proofs.Ytfagpgpeiomnpaa.P
