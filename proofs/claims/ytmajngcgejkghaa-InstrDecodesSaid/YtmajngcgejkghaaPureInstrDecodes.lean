/- InstrDecodes: any word is the instruction that the document says, or none. For every word of 32 bits; no condition. -/
import Derived.Test.YtmajngcgejkghaaPx15
import Derived.Test.YtmajngcgejkghaaPx28
import Derived.Test.YtmajngcgejkghaaQDec
namespace Go.Proofs.Ytmajngcgejkghaa.Pure
open Go.RowKit Go.Proofs.Ytmajngcgejkghaa.P Go.Proofs.Ytmajngcgejkghaa.Q Go.Proofs.Ytmajngcgejkghaa.C

theorem InstrDecodes : pascalinelaw02_InstrDecodes.Pure := by
  intro w hw
  have hw' := bounds_u32 hw
  refine ⟨100, ?_⟩
  unfold pascalinelaw02_InstrDecodes.f pascalinelaw02_Ref.f
  rw [instr_awake 100 (by omega), dec_eq 100 (by omega) w hw', rdec_eq 100 (by omega) w hw']
  simp
end Go.Proofs.Ytmajngcgejkghaa.Pure
