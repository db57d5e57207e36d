/- TurtleDoes: whatever is said, where the turtle is, where it looks, and what it draws, is what the page says. For all pairs; no condition. -/
import Derived.Test.YtbfepcajbbeheaaPx17
import Derived.Test.YtbfepcajbbeheaaPsTurtleDoes
namespace Go.Proofs.Ytbfepcajbbeheaa.Pure
open Go Go.RowKit Go.Proofs.Ytbfepcajbbeheaa.P Go.Proofs.Ytbfepcajbbeheaa.O Go.Proofs.YtbfepcajbbeheaaW.PrintWords
theorem TurtleDoes : pascalinelaw32_TurtleDoes.Pure := by
  intro l hl _
  unfold pascalinelaw32_TurtleDoes.f
  rw [if_pos]
  intro x hx
  have := bounds_i32 (hl.2 x hx).2
  omega
end Go.Proofs.Ytbfepcajbbeheaa.Pure
