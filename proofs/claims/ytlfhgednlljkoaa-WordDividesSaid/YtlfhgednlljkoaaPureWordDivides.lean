/- WordDivides: of any two numbers of 32 bits, word.Div and word.Mod answer what the document's division answers, and there is none by 0. For every a, b of type int32; no condition. -/
import Derived.Test.YtlfhgednlljkoaaQDiv
namespace Go.Proofs.Ytlfhgednlljkoaa.Pure
open Go.RowKit Go.Proofs.Ytlfhgednlljkoaa.P Go.Proofs.Ytlfhgednlljkoaa.Q Go.Proofs.Ytlfhgednlljkoaa.C Go.Proofs.YtlfhgednlljkoaaW.PrintWords Go.Proofs.YtlfhgednlljkoaaW.PrintLast

theorem WordDivides : pascalinelaw01_WordDivides.Pure := by
  intro a b ha hb
  have ha' := bounds_i32 ha
  have hb' := bounds_i32 hb
  unfold pascalinelaw01_WordDivides.f
  rw [awake_eq, div_eq a b ha' hb', mod_eq a b ha' hb', rdiv_eq a b ha' hb', rmod_eq a b ha' hb']
  simp
end Go.Proofs.Ytlfhgednlljkoaa.Pure
