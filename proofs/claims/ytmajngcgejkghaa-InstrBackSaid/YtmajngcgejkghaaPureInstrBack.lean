/- InstrBack: any instruction that may be is read from its word; any word that is one is written again. For every instruction and every word; no condition. -/
import Derived.Test.YtmajngcgejkghaaPx29
import Derived.Test.YtmajngcgejkghaaQDec
import Derived.Test.YtmajngcgejkghaaPsInstrBack
namespace Go.Proofs.Ytmajngcgejkghaa.Pure
open Go.RowKit Go.Proofs.Ytmajngcgejkghaa.P Go.Proofs.Ytmajngcgejkghaa.Q Go.Proofs.Ytmajngcgejkghaa.C

theorem back_j0 (k : Nat) (hk : 60 ≤ k) (w : Int) (hw : 0 ≤ w ∧ w ≤ 4294967295) : pascalinelaw02_InstrBack.j0 (k + 1) w = some true := by
  rw [pascalinelaw02_InstrBack.j0, dec_eq k hk w hw]
  simp only [Option.bind_some]
  rw [enc_eq k (by omega)]
  unfold decOf
  by_cases h : encOf (w / 16777216) (fieldA w) (fieldB w) (fieldC w) (fieldI w) = (w, 0)
  · rw [if_pos h]; simp [h]
  · rw [if_neg h]; simp
theorem InstrBack : pascalinelaw02_InstrBack.Pure := by
  intro op a b c i w _ _ _ _ _ hw
  have hw' := bounds_u32 hw
  refine ⟨101, ?_⟩
  unfold pascalinelaw02_InstrBack.f
  rw [instr_awake 101 (by omega), enc_eq 101 (by omega)]
  simp only [Option.bind_some]
  rw [if_pos trivial]
  have hj := back_j0 100 (by omega) w hw'
  by_cases h : checkOf op a b c i = 0
  · obtain ⟨h1, h2⟩ := dec_word op a b c i h
    have e : encOf op a b c i = (wordOf op a b c i, 0) := by unfold encOf; rw [if_pos h]
    rw [e]
    simp only
    rw [if_pos trivial, dec_eq 101 (by omega) _ h2, h1]
    simp [hj]
  · have e : encOf op a b c i = (0, checkOf op a b c i) := by unfold encOf; rw [if_neg h]
    rw [e]
    simp only
    rw [if_neg h]; exact hj
end Go.Proofs.Ytmajngcgejkghaa.Pure
