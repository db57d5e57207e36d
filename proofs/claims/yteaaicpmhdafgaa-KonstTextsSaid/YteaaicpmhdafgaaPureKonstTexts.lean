/- KonstTexts: which values are right, and their texts, are what the document says. For all values; no condition. -/
import Derived.Test.YteaaicpmhdafgaaPx17
import Derived.Test.YteaaicpmhdafgaaPx23
import Derived.Test.YteaaicpmhdafgaaQKonst2
import Derived.Test.YteaaicpmhdafgaaPsKonstTexts
namespace Go.Proofs.Yteaaicpmhdafgaa.Pure
set_option linter.unusedSimpArgs false
set_option linter.unusedVariables false
open Go.RowKit Go.Proofs.Yteaaicpmhdafgaa.P Go.Proofs.Yteaaicpmhdafgaa.Q Go.Proofs.Yteaaicpmhdafgaa.C Go.Proofs.YteaaicpmhdafgaaW.PrintWords
theorem KonstTexts : pascalinelaw10_KonstTexts.Pure := by
  intro t x _ hx
  have hx' := bounds_i32 hx
  refine ⟨100, ?_⟩
  unfold pascalinelaw10_KonstTexts.f pascalinelaw10_ref.f
  rw [konst_awake 70, right_eq, text_eq 95 t x hx']
  simp only [Option.bind_some]
  rw [rright_eq, rtext_eq t x hx']
  simp
end Go.Proofs.Yteaaicpmhdafgaa.Pure
