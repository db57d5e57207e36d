/- TurtleMeasures: how long, how wide and how high all is, and whether it comes back, is what the page says. For all pairs; no condition. -/
import Derived.Test.YtbfepcajbbeheaaPx27
import Derived.Test.YtbfepcajbbeheaaPsTurtleMeasures
namespace Go.Proofs.Ytbfepcajbbeheaa.Pure
open Go Go.RowKit Go.Proofs.Ytbfepcajbbeheaa.P Go.Proofs.Ytbfepcajbbeheaa.O Go.Proofs.YtbfepcajbbeheaaW.PrintWords
theorem TurtleMeasures : pascalinelaw32_TurtleMeasures.Pure := by
  intro l hl _
  unfold pascalinelaw32_TurtleMeasures.f
  rw [if_pos]
  intro x hx
  have h1 := bounds_i32 (hl.2 x hx).1
  have h2 := bounds_i32 (hl.2 x hx).2
  exact ⟨by omega, by omega⟩
end Go.Proofs.Ytbfepcajbbeheaa.Pure
