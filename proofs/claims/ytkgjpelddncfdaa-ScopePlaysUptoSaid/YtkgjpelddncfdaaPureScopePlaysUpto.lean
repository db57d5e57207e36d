/- ScopePlays: any scopes that are opened and closed, and names that are declared, are what the page says, or refused. For all inputs of bulk at most 1048576. -/
import Derived.Test.YtkgjpelddncfdaaPx29
import Derived.Test.YtkgjpelddncfdaaPsScopePlaysUpto
namespace Go.Proofs.Ytkgjpelddncfdaa.Pure
set_option linter.unusedVariables false
open Go Go.RowKit Go.Proofs.Ytkgjpelddncfdaa.P Go.Proofs.Ytkgjpelddncfdaa.O
theorem ScopePlaysUpto : pascalinelaw11_ScopePlays.PureU := by
  intro l0 h
  unfold pascalinelaw11_ScopePlays.f
  exact if_pos ⟨h.1, fun o ho => ⟨(h.2 o ho).2.2.1.2.2.2.2.2.2.2.1, (h.2 o ho).2.2.2.1, fun e he => ((h.2 o ho).2.2.2.2 e he).2.2.2.2.1⟩⟩
end Go.Proofs.Ytkgjpelddncfdaa.Pure
