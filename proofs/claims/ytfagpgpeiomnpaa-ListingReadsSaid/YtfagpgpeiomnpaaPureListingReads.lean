/- ListingReads: any text of at most 10000 bytes is the words that the document says, or its first wrong line is told. No condition. -/
import Derived.Test.YtfagpgpeiomnpaaPx18
import Derived.Test.YtfagpgpeiomnpaaPx43
import Derived.Test.YtfagpgpeiomnpaaPx44
import Derived.Test.YtfagpgpeiomnpaaPx47
import Derived.Test.YtfagpgpeiomnpaaQRead
namespace Go.Proofs.Ytfagpgpeiomnpaa.Pure
set_option linter.unusedSimpArgs false
set_option linter.unusedVariables false
open Go Go.RowKit Go.Proofs.Ytfagpgpeiomnpaa.P Go.Proofs.Ytfagpgpeiomnpaa.Q Go.Proofs.Ytfagpgpeiomnpaa.C Go.Proofs.YtfagpgpeiomnpaaW.PrintWords Go.Proofs.YtfagpgpeiomnpaaW.PrintLast

theorem reads_awake (k : Nat) (hk : 70 ≤ k) : pascalinelaw06_awake.f k = some true := by
  unfold pascalinelaw06_awake.f
  rw [line_eq k hk 4 385875967 (by omega) (by omega)]
  simp only [Option.bind_some]
  decide +kernel
theorem ListingReads : pascalinelaw06_ListingReads.Pure := by
  intro t ht
  refine ⟨100000, ?_⟩
  unfold pascalinelaw06_ListingReads.f
  rw [reads_awake 100000 (by omega), Option.bind_some, if_pos rfl]
  by_cases h0 : (t.size : Int) > 10000
  · rw [if_pos h0]
  · have e0 : t.extract 0 t.size = t := by
      apply bytesOf_inj
      rw [bytesOf_extract, List.take_of_length_le (by rw [bytesOf_length]; omega), List.drop_zero]
    have hp : listing_Read.f 100000 t = some (ls_all t.size t 0 []) := ls_prog t.size 100000 t 0 [] (by omega) (by simp only [List.length_nil]; omega) (by omega) (by omega)
    have hr : pascalineref06_Read.f 100000 t = some (ls_all t.size t 0 []) := by
      have := ls_ref t.size 100000 t 0 [] 0 0 t.size (by omega) (by omega) (by omega) (fun j h1 h2 => by omega) (by omega) (by simp) (by omega) (by omega)
      rw [e0] at this
      exact this
    have hl := ls_all_len t.size t 0 []
    simp only [List.length_nil] at hl
    rw [if_neg h0, hp, hr]
    simp only [Option.bind_some]
    have hw : pascalineref01_Words.f 100000 (ls_all t.size t 0 []).2.1 (ls_all t.size t 0 []).2.1 = some true := by
      unfold pascalineref01_Words.f
      rw [if_pos rfl]
      exact ls_words _ (by omega) (ls_all t.size t 0 []).2.1.length 100000 0 (by omega) (by omega)
    rw [hw]
    simp
end Go.Proofs.Ytfagpgpeiomnpaa.Pure
