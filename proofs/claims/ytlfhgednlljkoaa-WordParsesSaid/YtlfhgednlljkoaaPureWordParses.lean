/- WordParses: any text is the number of 32 bits, or the word of eight digits, that the document says, or none. For every string; no condition. -/
import Derived.Test.YtlfhgednlljkoaaQText
namespace Go.Proofs.Ytlfhgednlljkoaa.Pure
open Go.RowKit Go.Proofs.Ytlfhgednlljkoaa.P Go.Proofs.Ytlfhgednlljkoaa.Q Go.Proofs.Ytlfhgednlljkoaa.C Go.Proofs.YtlfhgednlljkoaaW.PrintWords Go.Proofs.YtlfhgednlljkoaaW.PrintLast

theorem WordParses : pascalinelaw01_WordParses.Pure := by
  intro s _
  refine ⟨s.size + 300, ?_⟩
  unfold pascalinelaw01_WordParses.f
  rw [awake_eq, word_parse_eq _ s (by omega), word_parseHex_eq _ s (by omega), ref_parse_eq _ s (by omega), ref_parseHex_eq _ s (by omega)]
  simp
end Go.Proofs.Ytlfhgednlljkoaa.Pure
