/- RangesTell: which segments may be, and, where their starts rise, which pad any word has, is what the document says. For all lists of segments and all numbers; no condition. -/
import Derived.Test.YtemkjnjfblliaaaPx5
import Derived.Test.YtemkjnjfblliaaaPx13
import Derived.Test.YtemkjnjfblliaaaQRng
import Derived.Test.YtemkjnjfblliaaaPsRangesTell
namespace Go.Proofs.Ytemkjnjfblliaaa.Pure
set_option linter.unusedSimpArgs false
set_option linter.unusedVariables false
open Go.RowKit Go.Proofs.Ytemkjnjfblliaaa.P Go.Proofs.Ytemkjnjfblliaaa.Q Go.Proofs.Ytemkjnjfblliaaa.C Go.Proofs.YtemkjnjfblliaaaW.PrintWords
theorem RangesTell : pascalinelaw16_RangesTell.Pure := by
  intro l s a _ _ _ _
  refine ⟨300, ?_⟩
  unfold pascalinelaw16_RangesTell.f pascalinelaw16_awake.f
  obtain ⟨b, hb, hf⟩ := few_spec 300 (by omega) l
  simp only [Option.bind_some, if_true]
  rw [hb]
  simp only [Option.bind_some]
  cases b with
  | false => rfl
  | true =>
    obtain ⟨hl, _⟩ := hf rfl
    obtain ⟨b1, h1, h2⟩ := right_same l s hl 300 (by omega)
    obtain ⟨b2, h3, h4⟩ := rising_spec 300 (by omega) l hl
    rw [h1, h2, h3]
    simp only [Option.bind_some, if_true, bne_self_eq_false, Bool.false_eq_true, if_false]
    cases b2 with
    | false => rfl
    | true =>
      obtain ⟨r, h5, h6⟩ := find_same (h4 rfl) hl a 300 (by omega)
      rw [h5, h6]
      simp
end Go.Proofs.Ytemkjnjfblliaaa.Pure
