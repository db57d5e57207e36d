/- TurtleBack: without the document's answer: four quarters lead back to where it looks; going, and going as far back, to where it was. For all pairs and numbers; no condition. -/

import Derived.Test.YtbfepcajbbeheaaPsTurtleBack
namespace Go.Proofs.Ytbfepcajbbeheaa.Pure
open Go Go.RowKit Go.Proofs.Ytbfepcajbbeheaa.P Go.Proofs.YtbfepcajbbeheaaW.PrintWords
theorem TurtleBack : pascalinelaw32_TurtleBack.Pure := by
  intro l a b _ _ _ _
  rfl
end Go.Proofs.Ytbfepcajbbeheaa.Pure
