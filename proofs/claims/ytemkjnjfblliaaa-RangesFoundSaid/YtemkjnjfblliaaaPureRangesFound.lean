/- RangesFound: what was marked, at words that rise, is what is found, word by word. For all lists of segments; no condition. -/
import Derived.Test.YtemkjnjfblliaaaPx11
import Derived.Test.YtemkjnjfblliaaaQRng
import Derived.Test.YtemkjnjfblliaaaPsRangesFound
namespace Go.Proofs.Ytemkjnjfblliaaa.Pure
set_option linter.unusedSimpArgs false
set_option linter.unusedVariables false
open Go.RowKit Go.Proofs.Ytemkjnjfblliaaa.P Go.Proofs.Ytemkjnjfblliaaa.Q Go.Proofs.Ytemkjnjfblliaaa.C Go.Proofs.YtemkjnjfblliaaaW.PrintWords
theorem RangesFound : pascalinelaw16_RangesFound.Pure := by
  intro l _ _
  refine ⟨300, ?_⟩
  obtain ⟨b, hb, hf⟩ := few_spec 300 (by omega) l
  unfold pascalinelaw16_RangesFound.f
  rw [hb]
  cases b with
  | false => rfl
  | true =>
    obtain ⟨b2, hb2, _⟩ := rising_spec 300 (by omega) l (hf rfl).1
    simp only [Option.bind_some, if_true]
    rw [hb2]
    cases b2 with
    | false => rfl
    | true => simp
end Go.Proofs.Ytemkjnjfblliaaa.Pure
