/- ReportPrograms: what is told of any program that was built is what the page says, line by line. For all inputs of bulk at most 1048576. -/
import Derived.Test.YtmebogkhdbbbbaaPx22
import Derived.Test.YtmebogkhdbbbbaaPsReportProgramsUpto
namespace Go.Proofs.Ytmebogkhdbbbbaa.Pure
set_option linter.unusedVariables false
open Go Go.RowKit Go.Proofs.Ytmebogkhdbbbbaa.P Go.Proofs.Ytmebogkhdbbbbaa.O
theorem ReportProgramsUpto : pascalinelaw31_ReportPrograms.PureU := by
  intro a0 a1 a2 a3 a4 l5 l6 a7 a8 a9 a10 ms ts fs h0 h1 h2 h3 h4 h5 h6 h7 h8 h9 h10 hm ht hf
  unfold pascalinelaw31_ReportPrograms.f
  refine if_pos ⟨⟨⟨bounds_u32 h0, bounds_u32 h1, bounds_u32 h2, bounds_u32 h3, bounds_u32 h4⟩, fun m hmm => ?_, fun n hn => bounds_i64 (ht.2 n hn), fun f hff => ?_⟩, by have := hm.1; omega, by have := ht.1; omega, by have := hf.1; omega⟩
  · obtain ⟨g0, g1, g2, g3, g4⟩ := hm.2 m hmm
    exact ⟨g0, bounds_i64 g1, bounds_i64 g2, bounds_i64 g3, bounds_i64 g4⟩
  · obtain ⟨g0, g1, g2, g3⟩ := hf.2 f hff
    refine ⟨g0, bounds_u32 g1, fun x hx => ?_⟩
    obtain ⟨k0, k1, k2, k3, k4⟩ := g3.2 x hx
    exact ⟨k0, k4.1⟩
end Go.Proofs.Ytmebogkhdbbbbaa.Pure
