/- PlaceBack: each byte of any text is found again by its line and its column. For all texts; no condition. -/

import Derived.Test.YtcpiaahkjgdliaaPsPlaceBack
namespace Go.Proofs.Ytcpiaahkjgdliaa.Pure
open Go.RowKit Go.Proofs.Ytcpiaahkjgdliaa.P Go.Proofs.YtcpiaahkjgdliaaW.PrintWords
theorem PlaceBack : pascalinelaw07_PlaceBack.Pure := by
  intro s _
  rfl
end Go.Proofs.Ytcpiaahkjgdliaa.Pure
