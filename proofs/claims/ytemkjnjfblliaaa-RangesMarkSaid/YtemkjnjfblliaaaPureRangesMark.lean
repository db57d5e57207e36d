/- RangesMark: whatever is marked, the segments are what the document says. For all lists of segments; no condition. -/
import Derived.Test.YtemkjnjfblliaaaPx9
import Derived.Test.YtemkjnjfblliaaaQRng
import Derived.Test.YtemkjnjfblliaaaPsRangesMark
namespace Go.Proofs.Ytemkjnjfblliaaa.Pure
set_option linter.unusedSimpArgs false
set_option linter.unusedVariables false
open Go.RowKit Go.Proofs.Ytemkjnjfblliaaa.P Go.Proofs.Ytemkjnjfblliaaa.Q Go.Proofs.Ytemkjnjfblliaaa.C Go.Proofs.YtemkjnjfblliaaaW.PrintWords
theorem RangesMark : pascalinelaw16_RangesMark.Pure := by
  intro l _ _
  refine ⟨300, ?_⟩
  obtain ⟨b, hb, hf⟩ := few_spec 300 (by omega) l
  unfold pascalinelaw16_RangesMark.f
  rw [hb]
  cases b with
  | false => rfl
  | true =>
    have h := (hf rfl).1
    simp only [Option.bind_some, if_true]
    rw [if_pos ⟨by omega, h⟩]
end Go.Proofs.Ytemkjnjfblliaaa.Pure
