/- CoverAdds: visits of two runs are added word by word; parts have the times of both. For all images and visits; no condition. -/
import Derived.Test.YtbhccjoodlldbaaPx8
import Derived.Test.YtbhccjoodlldbaaPsCoverAdds
import Derived.Test.YtbhccjoodlldbaaQCover
namespace Go.Proofs.Ytbhccjoodlldbaa.Pure
set_option linter.unusedSimpArgs false
set_option linter.unusedVariables false
open Go Go.RowKit Go.Proofs.Ytbhccjoodlldbaa.P Go.Proofs.Ytbhccjoodlldbaa.Q Go.Proofs.Ytbhccjoodlldbaa.C Go.Proofs.YtbhccjoodlldbaaW.PrintWords
theorem CoverAdds : pascalinelaw33_CoverAdds.Pure := by
  intro b0 b1 b2 b3 b4 c5 c6 b7 b8 b9 b10 M a b
  intros
  refine ⟨20001, ?_⟩
  unfold pascalinelaw33_CoverAdds.f
  rw [co_awake_k 20001 (by omega), Option.bind_some, if_pos rfl]
  obtain ⟨x, hx, hfx⟩ := co_Few a b0 b1 b2 b3 b4 c5 c6 b7 b8 b9 b10 M 20001 (by omega)
  obtain ⟨y, hy, hfy⟩ := co_Few b b0 b1 b2 b3 b4 c5 c6 b7 b8 b9 b10 M 20001 (by omega)
  rw [hx, Option.bind_some]
  cases x with
  | false => rw [if_neg (by decide)]; simp only [pascalinelaw33_CoverAdds.j0, if_true]
  | true =>
    rw [if_pos rfl, hy, Option.bind_some]
    cases y with
    | false => simp only [Bool.not_false, pascalinelaw33_CoverAdds.j0, if_true]
    | true =>
      obtain ⟨hM, hA⟩ := hfx rfl
      obtain ⟨_, hB⟩ := hfy rfl
      obtain ⟨s, h1, h2, h3, h4⟩ := co_Add a b hA.v hB.v 20000 (by omega)
      simp only [Bool.not_true, pascalinelaw33_CoverAdds.j0, Bool.false_eq_true, if_false]
      rw [h1, Option.bind_some, if_pos h2]
      have hle : a.length ≤ s.length ∧ b.length ≤ s.length := by unfold mx at h2; split at h2 <;> omega
      exact co_l0 a b s hA hB h3 hle.1 hle.2 h4 b0 b1 b2 b3 b4 c5 c6 b7 b8 b9 b10 M hM s.length 20000 0 (by omega) (by omega) (fun j hj => by omega)
end Go.Proofs.Ytbhccjoodlldbaa.Pure
