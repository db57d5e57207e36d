/- The pure statement of ListingPrints. Written by a program of this session (wip/tools/genrow.py). -/
import Derived.Test.YtfagpgpeiomnpaaPx48
import Derived.Test.YtfagpgpeiomnpaaO
namespace Go.Proofs.Ytfagpgpeiomnpaa.P
open Go Go.RowKit Go.Proofs.Ytfagpgpeiomnpaa.O Go.Proofs.YtfagpgpeiomnpaaW.PrintWords
def pascalinelaw06_ListingPrints.Pure : Prop := ∀ (a0 : Int) (l1 : List Int), (Lit.int .u32 a0).wf = true → (l1.length ≤ 9223372036854775807 ∧ ∀ x ∈ l1, (Lit.int .u32 x).wf = true) → l1.length * 4 ≤ 140737488351232 → pascalinelaw06_ListingPrints.f a0 l1 = some true
end Go.Proofs.Ytfagpgpeiomnpaa.P
