/- PlaceFinds: the line and the column of any byte, and the byte of any line and column, is what the document says. For all texts and all numbers; no condition. -/
import Derived.Test.YtcpiaahkjgdliaaPx11
import Derived.Test.YtcpiaahkjgdliaaPsPlaceFinds
namespace Go.Proofs.Ytcpiaahkjgdliaa.Pure
open Go.RowKit Go.Proofs.Ytcpiaahkjgdliaa.P Go.Proofs.YtcpiaahkjgdliaaW.PrintWords
theorem PlaceFinds : pascalinelaw07_PlaceFinds.Pure := by
  intro s off x y _ _ hx hy
  have h := bounds_i64 hy
  refine ⟨3000, ?_⟩
  unfold pascalinelaw07_PlaceFinds.f
  rw [if_pos ⟨Nat.le_refl _, by omega⟩]
end Go.Proofs.Ytcpiaahkjgdliaa.Pure
