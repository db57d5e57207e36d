/- KonstOne: any value, by any sign, comes to what the document says, or is refused. For every string and all values; no condition. -/
import Derived.Test.YteaaicpmhdafgaaPx17
import Derived.Test.YteaaicpmhdafgaaPx20
import Derived.Test.YteaaicpmhdafgaaQKonst2
import Derived.Test.YteaaicpmhdafgaaPsKonstOne
namespace Go.Proofs.Yteaaicpmhdafgaa.Pure
set_option linter.unusedSimpArgs false
set_option linter.unusedVariables false
open Go.RowKit Go.Proofs.Yteaaicpmhdafgaa.P Go.Proofs.Yteaaicpmhdafgaa.Q Go.Proofs.Yteaaicpmhdafgaa.C Go.Proofs.YteaaicpmhdafgaaW.PrintWords
theorem KonstOne : pascalinelaw10_KonstOne.Pure := by
  intro s t x _ _ hx
  have hx' := bounds_i32 hx
  refine ⟨100, ?_⟩
  unfold pascalinelaw10_KonstOne.f pascalinelaw10_ref.f
  rw [konst_awake 70, one_eq s t x]
  simp only [Option.bind_some]
  rw [rone_eq 95 s t x hx']
  simp
end Go.Proofs.Yteaaicpmhdafgaa.Pure
