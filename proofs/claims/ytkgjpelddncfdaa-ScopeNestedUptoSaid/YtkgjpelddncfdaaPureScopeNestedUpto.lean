/- ScopeNested: what is declared within a scope hides what is declared without, till it is closed. For all inputs of bulk at most 1048576. -/
import Derived.Test.YtkgjpelddncfdaaPx27
import Derived.Test.YtkgjpelddncfdaaPsScopeNestedUpto
namespace Go.Proofs.Ytkgjpelddncfdaa.Pure
set_option linter.unusedVariables false
open Go Go.RowKit Go.Proofs.Ytkgjpelddncfdaa.P Go.Proofs.Ytkgjpelddncfdaa.O
theorem ScopeNestedUpto : pascalinelaw11_ScopeNested.PureU := by
  intro l0 a0 a1 a2 a3 a4 a5 a6 l7 m h _ _ _ _ _ _ h7 hm
  unfold pascalinelaw11_ScopeNested.f
  have hb : 0 ≤ m ∧ m ≤ 255 := by simpa [Lit.wf, IntKind.min, IntKind.max, IntKind.signed, IntKind.bits] using hm
  exact if_pos ⟨h.1, fun o ho => ⟨(h.2 o ho).2.2.1.2.2.2.2.2.2.2.1, (h.2 o ho).2.2.2.1, fun e he => ((h.2 o ho).2.2.2.2 e he).2.2.2.2.1⟩, h7.1, hb.1, hb.2⟩
end Go.Proofs.Ytkgjpelddncfdaa.Pure
