/- The pure statement of TraceAhead. Written by a program of this session (wip/tools/genrow.py). -/
import Derived.Test.YtajcopcmahidhaaPx22
import Derived.Test.YtajcopcmahidhaaO
namespace Go.Proofs.Ytajcopcmahidhaa.P
open Go Go.RowKit Go.Proofs.Ytajcopcmahidhaa.O Go.Proofs.YtajcopcmahidhaaW.PrintWords
def pascalinelaw29_TraceAhead.Pure : Prop := ∀ (l0 : List (S27)) (l1 : List Int) (a2 : Int), (l0.length ≤ 9223372036854775807 ∧ ∀ x ∈ l0, good27 x) → (l1.length ≤ 9223372036854775807 ∧ ∀ x ∈ l1, (Lit.int .i32 x).wf = true) → (Lit.int .u8 a2).wf = true → l0.length * 16 ≤ 140737488351232 → l1.length * 4 ≤ 140737488351232 → ∃ k, pascalinelaw29_TraceAhead.f k l0 l1 a2 = some true
end Go.Proofs.Ytajcopcmahidhaa.P
