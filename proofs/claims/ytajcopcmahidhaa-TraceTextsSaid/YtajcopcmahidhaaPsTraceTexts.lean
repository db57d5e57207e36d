/- The pure statement of TraceTexts. Written by a program of this session (wip/tools/genrow.py). -/
import Derived.Test.YtajcopcmahidhaaPx24
import Derived.Test.YtajcopcmahidhaaO
namespace Go.Proofs.Ytajcopcmahidhaa.P
open Go Go.RowKit Go.Proofs.Ytajcopcmahidhaa.O Go.Proofs.YtajcopcmahidhaaW.PrintWords
def pascalinelaw29_TraceTexts.Pure : Prop := ∀ (l0 : List (S27)) (a1 : Int), (l0.length ≤ 9223372036854775807 ∧ ∀ x ∈ l0, good27 x) → (Lit.int .i64 a1).wf = true → l0.length * 16 ≤ 140737488351232 → ∃ k, pascalinelaw29_TraceTexts.f k l0 a1 = some true
end Go.Proofs.Ytajcopcmahidhaa.P
