/- InstrEncodes: any instruction has the word that the document says, or the error that it says. For every instruction (five numbers of type int); no condition. -/
import Derived.Test.YtmajngcgejkghaaPx15
import Derived.Test.YtmajngcgejkghaaPx16
import Derived.Test.YtmajngcgejkghaaQDec
import Derived.Test.YtmajngcgejkghaaPsInstrEncodes
namespace Go.Proofs.Ytmajngcgejkghaa.Pure
open Go.RowKit Go.Proofs.Ytmajngcgejkghaa.P Go.Proofs.Ytmajngcgejkghaa.Q Go.Proofs.Ytmajngcgejkghaa.C

theorem InstrEncodes : pascalinelaw02_InstrEncodes.Pure := by
  intro op a b c i _ _ _ _ _
  refine ⟨100, ?_⟩
  unfold pascalinelaw02_InstrEncodes.f pascalinelaw02_Ref.f
  rw [instr_awake 100 (by omega), enc_eq 100 (by omega), check_eq 100 (by omega)]
  simp only [Option.bind_some]
  rw [renc_eq 100 (by omega)]
  have e : (encOf op a b c i).2 = checkOf op a b c i := by
    unfold encOf; split
    · rename_i h; rw [h]
    · rfl
  simp [e]
end Go.Proofs.Ytmajngcgejkghaa.Pure
