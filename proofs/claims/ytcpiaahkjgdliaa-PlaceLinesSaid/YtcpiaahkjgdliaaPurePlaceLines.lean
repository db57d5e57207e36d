/- PlaceLines: any text has the document's lines, and no others. For all texts and all numbers; no condition. -/
import Derived.Test.YtcpiaahkjgdliaaPx9
import Derived.Test.YtcpiaahkjgdliaaPsPlaceLines
namespace Go.Proofs.Ytcpiaahkjgdliaa.Pure
open Go.RowKit Go.Proofs.Ytcpiaahkjgdliaa.P Go.Proofs.YtcpiaahkjgdliaaW.PrintWords
theorem PlaceLines : pascalinelaw07_PlaceLines.Pure := by
  intro s n _ _
  refine ⟨3000, ?_⟩
  unfold pascalinelaw07_PlaceLines.f
  rw [if_pos (Nat.le_refl _)]
end Go.Proofs.Ytcpiaahkjgdliaa.Pure
