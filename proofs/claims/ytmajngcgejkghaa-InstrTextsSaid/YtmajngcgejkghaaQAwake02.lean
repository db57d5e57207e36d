/- The page's examples of law 02. -/
import Derived.Test.YtmajngcgejkghaaPx1
import Derived.Test.YtmajngcgejkghaaQDec
namespace Go.Proofs.Ytmajngcgejkghaa.Q
set_option linter.unusedVariables false
set_option linter.unusedSimpArgs false
open Go Go.RowKit Go.Proofs.Ytmajngcgejkghaa.P Go.Proofs.Ytmajngcgejkghaa.C Go.Proofs.YtmajngcgejkghaaW.PrintWords Go.Proofs.YtmajngcgejkghaaW.PrintLast Go.Proofs.YtmajngcgejkghaaW.PrintMore
theorem instr_awake (k : Nat) (hk : 10 ≤ k) : pascalinelaw02_awake.f k = some true := by
  unfold pascalinelaw02_awake.f
  rw [enc_eq k hk, enc_eq k hk]
  decide +kernel
end Go.Proofs.Ytmajngcgejkghaa.Q
