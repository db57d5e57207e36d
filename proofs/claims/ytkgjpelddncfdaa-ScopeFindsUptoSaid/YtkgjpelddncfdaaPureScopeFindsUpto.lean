/- ScopeFinds: what any name names, here and in any module, is what the page says. For all inputs of bulk at most 1048576. -/
import Derived.Test.YtkgjpelddncfdaaPx31
import Derived.Test.YtkgjpelddncfdaaPsScopeFindsUpto
namespace Go.Proofs.Ytkgjpelddncfdaa.Pure
set_option linter.unusedVariables false
open Go Go.RowKit Go.Proofs.Ytkgjpelddncfdaa.P Go.Proofs.Ytkgjpelddncfdaa.O
theorem ScopeFindsUpto : pascalinelaw11_ScopeFinds.PureU := by
  intro l0 a1 a2 h _ _
  unfold pascalinelaw11_ScopeFinds.f
  exact if_pos ⟨h.1, fun o ho => ⟨(h.2 o ho).2.2.1.2.2.2.2.2.2.2.1, (h.2 o ho).2.2.2.1, fun e he => ((h.2 o ho).2.2.2.2 e he).2.2.2.2.1⟩⟩
end Go.Proofs.Ytkgjpelddncfdaa.Pure
