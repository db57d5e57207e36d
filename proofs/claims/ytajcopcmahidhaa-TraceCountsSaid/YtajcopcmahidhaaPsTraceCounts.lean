/- The pure statement of TraceCounts. Written by a program of this session (wip/tools/genrow.py). -/
import Derived.Test.YtajcopcmahidhaaPx10
import Derived.Test.YtajcopcmahidhaaO
namespace Go.Proofs.Ytajcopcmahidhaa.P
open Go Go.RowKit Go.Proofs.Ytajcopcmahidhaa.O Go.Proofs.YtajcopcmahidhaaW.PrintWords
def pascalinelaw29_TraceCounts.Pure : Prop := ∀ (l0 : List (S27)), (l0.length ≤ 9223372036854775807 ∧ ∀ x ∈ l0, good27 x) → l0.length * 16 ≤ 140737488351232 → ∃ k, pascalinelaw29_TraceCounts.f k l0 = some true
end Go.Proofs.Ytajcopcmahidhaa.P
