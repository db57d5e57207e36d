/- ListingReaches: for any program of at most 60 words and any starting words, the words to which one comes are the document's. No condition. -/
import Derived.Test.YtfagpgpeiomnpaaPx18
import Derived.Test.YtfagpgpeiomnpaaPx40
import Derived.Test.YtfagpgpeiomnpaaQReach6
namespace Go.Proofs.Ytfagpgpeiomnpaa.Pure
set_option linter.unusedSimpArgs false
set_option linter.unusedVariables false
open Go Go.RowKit Go.Proofs.Ytfagpgpeiomnpaa.P Go.Proofs.Ytfagpgpeiomnpaa.Q Go.Proofs.Ytfagpgpeiomnpaa.C Go.Proofs.YtfagpgpeiomnpaaW.PrintWords Go.Proofs.YtfagpgpeiomnpaaW.PrintLast

theorem reaches_awake (k : Nat) (hk : 70 ≤ k) : pascalinelaw06_awake.f k = some true := by
  unfold pascalinelaw06_awake.f
  rw [line_eq k hk 4 385875967 (by omega) (by omega)]
  simp only [Option.bind_some]
  decide +kernel
theorem reaches_t (k : Nat) (l0 l1 : List Int) : pascalinelaw06_ListingReaches.j0 (k + 1) l0 l1 true = some true := by
  simp only [pascalinelaw06_ListingReaches.j0, if_true]
theorem reaches_f (k : Nat) (l0 l1 : List Int) (h0 : l0.length ≤ 60) (h1 : l1.length ≤ 60) (hW : LqW l0) (hk : 4500000 ≤ k) : pascalinelaw06_ListingReaches.j0 (k + 1) l0 l1 false = some true := by
  simp only [pascalinelaw06_ListingReaches.j0]
  rw [if_neg (by simp), lq_prog l0 l1 (by omega) (by omega) hW k (by omega), Option.bind_some, lq_ref l0 l1 (by omega) (by omega) hW k (by omega), Option.bind_some, if_pos rfl]
  exact lq_same (lq_all l0 l1) (by rw [lq_all_len]; omega) l0.length k 0 (by rw [lq_all_len]; omega) (by omega)
theorem ListingReaches : pascalinelaw06_ListingReaches.Pure := by
  intro l0 l1 _ _ hw0 _ _ _
  have hW : LqW l0 := by
    intro i hi
    have := bounds_u32 (hw0 _ (List.getElem_mem hi))
    rw [lq_rd l0 i hi]
    omega
  refine ⟨5000000, ?_⟩
  unfold pascalinelaw06_ListingReaches.f
  rw [reaches_awake 5000000 (by omega), Option.bind_some, if_pos rfl]
  by_cases h0 : (l0.length : Int) > 60
  · rw [if_pos h0]
    exact reaches_t 4999999 l0 l1
  · rw [if_neg h0]
    by_cases h1 : (l1.length : Int) > 60
    · rw [decide_eq_true h1]
      exact reaches_t 4999999 l0 l1
    · rw [decide_eq_false h1]
      exact reaches_f 4999999 l0 l1 (by omega) (by omega) hW (by omega)
end Go.Proofs.Ytfagpgpeiomnpaa.Pure
