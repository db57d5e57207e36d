/- RangesJoin: segments that are moved, joined, and how many words they cover, are what the document says. For all lists of segments and all numbers; no condition. -/
import Derived.Test.YtemkjnjfblliaaaPx20
import Derived.Test.YtemkjnjfblliaaaQRng
import Derived.Test.YtemkjnjfblliaaaPsRangesJoin
namespace Go.Proofs.Ytemkjnjfblliaaa.Pure
set_option linter.unusedSimpArgs false
set_option linter.unusedVariables false
open Go.RowKit Go.Proofs.Ytemkjnjfblliaaa.P Go.Proofs.Ytemkjnjfblliaaa.Q Go.Proofs.Ytemkjnjfblliaaa.C Go.Proofs.YtemkjnjfblliaaaW.PrintWords
theorem RangesJoin : pascalinelaw16_RangesJoin.Pure := by
  intro a b x y _ _ _ hy _ _
  have h := bounds_i64 hy
  refine ⟨3000, ?_⟩
  obtain ⟨b1, h1, _⟩ := few_spec 3000 (by omega) a
  obtain ⟨b2, h2, _⟩ := few_spec 3000 (by omega) b
  unfold pascalinelaw16_RangesJoin.f
  rw [h1, h2]
  simp only [Option.bind_some]
  rw [if_pos ⟨Nat.le_refl _, by omega⟩]
end Go.Proofs.Ytemkjnjfblliaaa.Pure
