/- PlaceMarks: any byte is marked below its line. For all texts and all offsets; no condition. -/
import Derived.Test.YtcpiaahkjgdliaaPx14
import Derived.Test.YtcpiaahkjgdliaaPsPlaceMarks
namespace Go.Proofs.Ytcpiaahkjgdliaa.Pure
open Go.RowKit Go.Proofs.Ytcpiaahkjgdliaa.P Go.Proofs.YtcpiaahkjgdliaaW.PrintWords
theorem PlaceMarks : pascalinelaw07_PlaceMarks.Pure := by
  intro s n _ _
  refine ⟨5000, ?_⟩
  unfold pascalinelaw07_PlaceMarks.f
  rw [if_pos (Nat.le_refl _)]
end Go.Proofs.Ytcpiaahkjgdliaa.Pure
