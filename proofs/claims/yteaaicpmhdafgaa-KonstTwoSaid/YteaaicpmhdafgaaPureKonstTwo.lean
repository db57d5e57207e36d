/- KonstTwo: any two values, by any sign, come to what the document says, or are refused. For every string and all values; no condition. -/
import Derived.Test.YteaaicpmhdafgaaPx17
import Derived.Test.YteaaicpmhdafgaaPx18
import Derived.Test.YteaaicpmhdafgaaQKonst2
import Derived.Test.YteaaicpmhdafgaaPsKonstTwo
namespace Go.Proofs.Yteaaicpmhdafgaa.Pure
set_option linter.unusedSimpArgs false
set_option linter.unusedVariables false
open Go.RowKit Go.Proofs.Yteaaicpmhdafgaa.P Go.Proofs.Yteaaicpmhdafgaa.Q Go.Proofs.Yteaaicpmhdafgaa.C Go.Proofs.YteaaicpmhdafgaaW.PrintWords
theorem KonstTwo : pascalinelaw10_KonstTwo.Pure := by
  intro s t x u y _ _ hx _ hy
  have hx' := bounds_i32 hx
  have hy' := bounds_i32 hy
  refine ⟨100, ?_⟩
  unfold pascalinelaw10_KonstTwo.f pascalinelaw10_ref.f
  rw [konst_awake 70, two_eq 80 s t x u y hx' hy']
  simp only [Option.bind_some]
  rw [rtwo_eq 80 s t x u y hx' hy']
  simp
end Go.Proofs.Yteaaicpmhdafgaa.Pure
