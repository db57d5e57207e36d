/- TurtlePairs: numbers are gone over two by two, up to where one breaks off. For all numbers; no condition. -/
import Derived.Test.YtbfepcajbbeheaaPx22
import Derived.Test.YtbfepcajbbeheaaPsTurtlePairs
namespace Go.Proofs.Ytbfepcajbbeheaa.Pure
open Go Go.RowKit Go.Proofs.Ytbfepcajbbeheaa.P Go.Proofs.YtbfepcajbbeheaaW.PrintWords
theorem TurtlePairs : pascalinelaw32_TurtlePairs.Pure := by
  intro l n hl hn _
  have h := bounds_u8 hn
  unfold pascalinelaw32_TurtlePairs.f
  rw [if_pos (by omega)]
end Go.Proofs.Ytbfepcajbbeheaa.Pure
